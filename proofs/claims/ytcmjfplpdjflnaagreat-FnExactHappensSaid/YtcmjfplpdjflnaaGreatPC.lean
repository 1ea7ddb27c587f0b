/- Plain laws about what the program computes. -/
import Derived.Test.YtcmjfplpdjflnaaGreatPA
set_option linter.unusedVariables false
set_option linter.unusedSimpArgs false
set_option linter.unusedSectionVars false
open Int renaming eq_ofNat_of_zero_le->A6,tdiv_eq_ediv_of_nonneg->GJ,tmod_eq_emod_of_nonneg->Dg,toNat_natCast->Aa
open List renaming append_eq_nil_iff->HO,cons_append->ER,drop_drop->C8,drop_eq_getElem_cons->GV,drop_eq_nil_iff->Fb,drop_eq_nil_of_le->A9,drop_left->EA,drop_zero->Cp,flatMap_cons->CX,getElem?_cons_zero->AK,getElem?_drop->Bn,getElem?_eq_getElem->AV,getElem?_eq_none->DJ,length_append->AP,length_cons->AJ,length_nil->AS,length_set->BZ,nil_append->B5
open Nat renaming add_assoc->CO,div_lt_iff_lt_mul->Cm,lt_or_ge->Ab,mod_eq_of_lt->JU,mul_le_mul_right->Ag,pow_le_pow_right->Fg,pow_succ->G6,xor_lt_two_pow->Da,zero_add->As
namespace Lv.P
open Go (IntKind BinOp UnOp)
@[simp] theorem aQ(a b c:Int):ED a b c=some (decide (b<=a/\a<=c)):=by
 grind[ED,aG,BH,AU]
@[simp] theorem PI(a b c:Int):C0 a b c=some (decide (b<=a/\a<=c)):=by
 grind[C0,Uh,BH,AU]
def Eu(n:Nat):List UInt8:=if n<128 then [UInt8.ofNat n] else UInt8.ofNat (n % 128+128)::Eu (n / 128)
decreasing_by omega
def pN(n:Int):List UInt8:=if 0<=n/\n<=2147483647 then Eu n.toNat else []
theorem Nd{n:Nat}(h:n<128):Eu n=[UInt8.ofNat n]:=by rw[Eu,AW h]
theorem SY{n:Nat}(h:128<=n):Eu n=UInt8.ofNat (n % 128+128)::Eu (n / 128):=by rw[Eu,AT (by omega)]
theorem He(n:Nat):0<(Eu n).length:=by rw[Eu];split<;>simp
theorem Zg:∀(k n:Nat),n<128 ^ (k+1)->(Eu n).length<=k+1
 |0,n,h=>by rw[Nd (by simpa using h)];simp|k+1,n,h=>by
  rcases Ab n 128 with a|a
  .rw[Nd a];simp
  .rw[SY a];have:=Zg k (n / 128) (by rw[Cm (by omega)];rw[G6]at h;exact h);simp only[AJ];omega
theorem Jc{n:Nat}(h:n<=2147483647):(Eu n).length<=5:=Zg 4 n (by omega)
theorem N4(n:Int):(pN n).length<=5:=by unfold pN;split
                                       .exact Jc (by omega)
                                       .simp
theorem AKC{F:(Int×List UInt8->AA (List UInt8))->Int×List UInt8->AA (List UInt8)}
 (hF:∀L n acc,F L (n,acc)=if n<128 then gd (acc.length+1<=lim) (some (acc++[toB n])) else gd (acc.length+1<=lim) (L (w64 (Int.tdiv n 128),acc++[toB (w64 (Int.tmod n 128+128))])))
 {n:Nat} (q:n<=2147483647):A3 F big ((n:Int),[])=some (Eu n):=by
 have:=YU (F:=F) (x:=((n:Int),[])) (fun x=>some (x.2++Eu x.1.toNat)) (fun x=>0<=x.1/\x.1<=2147483647/\x.2.length+(Eu x.1.toNat).length<=5) (fun x=>x.1.toNat) ?_ ?_ ?_
 .simpa using this
 .rintro L ⟨m,acc⟩ ⟨a,j,c⟩ hL;dsimp only at a j c hL ⊢;obtain⟨m,rfl⟩:=A6 a;rw[hF];simp only[Aa]at c hL ⊢;have hlim:acc.length+1<=lim:=by have:=He m;unfold lim;omega
  by_cases h:m<128
  .rw[AW (by omega),B4 hlim,Nd h,AKW (by omega)]
  .have e:Int.tdiv (m:Int) 128=((m / 128:Nat):Int):=by
    rw[GJ (by omega)];rfl
   have g:Int.tmod (m:Int) 128+128=((m % 128+128:Nat):Int):=by
    rw[Dg (by omega)];omega
   have y:=SY (n:=m) (by omega);rw[AT (by omega),B4 hlim,e,g,Aq (by omega) (by omega),Aq (by omega) (by omega),AKW (by omega)]
   grind
 .refine⟨by dsimp only;omega,by dsimp only;omega,?_⟩;have:=Jc q;simpa using this
 .dsimp only;omega
@[simp] theorem Rr(n:Int):cV n=some (pN n):=by
 unfold cV pN;simp only[aQ,AB,BK,BH];split
 .rename_i h;obtain⟨m,rfl⟩:=A6 h.1;refine AKC (fun L n acc=>?_) (by omega);unfold xh xg;simp only[BH,AU,AJ,AS,As];by_cases h:n>127
  .grind
  .rw[AT h,AW (by omega)]
 .rfl
@[simp] theorem JZ(n:Int):VC n=some (pN n):=by
 unfold VC pN;simp only[PI,AB,BK,BH];split
 .rename_i h;obtain⟨m,rfl⟩:=A6 h.1;refine AKC (fun L n acc=>?_) (by omega);unfold yX yW;simp only[BH,AU,AJ,AS,As];by_cases h:n>=128
  .grind
  .rw[AT h,AW (by omega)]
 .rfl
def rdN:Nat->Nat->Nat->List UInt8->AA (Nat×Nat)
 |0,_,_,_=>none|_+1,_,_,[]=>none|f+1,k,a,d::l=>
  if d.toNat<128 then (if (0<k/\d.toNat=0)\/2147483647<a+(d.toNat % 128)*2 ^ (7*k) then none else some (a+(d.toNat % 128)*2 ^ (7*k),k+1))
  else rdN f (k+1) (a+(d.toNat % 128)*2 ^ (7*k)) l
def rI(at_:Nat):AA (Nat×Nat)->Int×Int×Bool|some (n,m)=>((n:Int),((at_+m:Nat):Int),true)|none=>(0,0,false)
def gN(b:List UInt8)(i:Int):Int×Int×Bool:=if 0<=i/\i<b.length then rI i.toNat (rdN 5 0 0 (b.drop i.toNat)) else (0,0,false)
theorem ACj{c s:Nat}(g:c<128)(a:s<=28):lu (c:Int) (s:Int)=((c*2 ^ s:Nat):Int):=by
 have e:c*2 ^ s<2 ^ 35:=by
  have:2 ^ s<=2 ^ 28:=Fg (by omega) a
  calc c*2 ^ s<=127*2 ^ 28:=Nat.mul_le_mul (by omega) this
   _<2 ^ 35:=by decide
 grind[IntKind.bits,XA]
theorem Ov{n:Nat}(h:n<2 ^ 63):(BitVec.ofInt IntKind.i64.bits (n:Int)).toNat=n:=by
 simp only[IntKind.bits,BitVec.toNat_ofInt];omega
theorem AXD{a b:Nat}(c:a<2 ^ 63)(e:b<2 ^ 63):orI (a:Int) (b:Int)=((a |||b:Nat):Int):=by
 unfold orI;rw[BitVec.toNat_or,Ov c,Ov e];have:a |||b<2 ^ 63:=Nat.or_lt_two_pow c e;rw[XA (by omega) (by omega)]
theorem AZn{a c s:Nat}(e:a<2 ^ s):a |||c*2 ^ s=a+c*2 ^ s:=by
 have:=Nat.two_pow_add_eq_or_of_lt e c;rw[Nat.or_comm,Nat.mul_comm,<-this,Nat.add_comm]
theorem ACD:∀(k n:Nat),n<128 ^ (k+1)->((Eu n).length=k+1↔k=0\/128 ^ k<=n)
 |0,n,h=>by rw[Nd (by simpa using h)];simp|k+1,n,h=>by
  rcases Ab n 128 with a|a
  .grind[Nd]
  .rw[SY a];have c:n / 128<128 ^ (k+1):=by rw[Cm (by omega)];rw[G6]at h;exact h
   have:=ACD k (n / 128) c;have e:128 ^ k<=n / 128↔128 ^ (k+1)<=n:=by rw[Nat.le_div_iff_mul_le (by omega),G6]
   grind
theorem AZr(k:Nat):(2:Nat) ^ (7*k)=128 ^ k:=by rw[Nat.pow_mul]
theorem digit{a k c:Nat}(j:k<5)(g:a<128 ^ k)(h:c<128):a+c*2 ^ (7*k)<128 ^ (k+1)/\a+c*2 ^ (7*k)<2 ^ 35:=by
 rw[AZr];have e:a+c*128 ^ k<128 ^ (k+1):=by
  have:c*128 ^ k<=127*128 ^ k:=Ag _ (by omega);rw[G6];omega
 refine⟨e,Nat.lt_of_lt_of_le e ?_⟩
 calc 128 ^ (k+1)<=128 ^ 5:=Fg (by omega) (by omega)
  _=2 ^ 35:=by decide
theorem PD{b:List UInt8}(I:b.length<2 ^ 62){i:Nat}(hi:i<2 ^ 62):∀(f k a n:Nat),f+k=5->f<n->a<128 ^ k ->
 A3 (OW b i) n ((a:Int),(k:Int))=some (rI i (rdN f k a (b.drop (i+k))))
 |0,k,a,n,Q,X,g=>by
  obtain⟨n,rfl⟩:∃m,n=m+1:=⟨n-1,by omega⟩;rw[Dv];unfold OW zF;simp only[BH,AU];rw[AT (by omega)];rfl
 |f+1,k,a,n,Q,X,g=>by
  obtain⟨n,rfl⟩:∃m,n=m+1:=⟨n-1,by omega⟩;rw[Dv];generalize hL:A3 (OW b i) n=L;unfold OW;simp only[BH,AU];rw[AW (by omega),AT (by omega)];unfold VL VM;simp only[BH,AU,BL,CJ,ge_iff_le,beq_iff_eq,decide_eq_true_eq];rw[Aq (n:=(b.length:Int)-k) (by omega) (by omega)];cases e:b.drop (i+k) with
  |nil=>
   have:b.length<=i+k:=Fb.1 e;rw[AW (by omega)];rfl
  |cons d l=>
   have S:i+k<b.length:=by
    rcases Ab (i+k) b.length with h|h
    .exact h
    .rw[A9 h]at e;cases e
   have J:b[i+k]?=some d:=by
    have:=Bn (xs:=b) (i:=i+k) (j:=0);rw[e]at this;simpa using this.symm
   have q:b.drop (i+(k+1))=l:=by
    rw[<-CO,<-C8,e];rfl
   rw[AT (by omega),Aq (n:=(i:Int)+k) (by omega) (by omega),show (i:Int)+k=((i+k:Nat):Int) from by push_cast;rfl,FB,J,AB];have O:d.toNat<256:=d.toNat_lt;have G:w64 (7*(k:Int))=((7*k:Nat):Int):=by rw[Aq (by omega) (by omega)];push_cast;rfl
   have ed:w64 ((d.toNat:Nat):Int)=(d.toNat:Int):=Aq (by omega) (by omega);have em:Int.tmod (d.toNat:Int) 128=((d.toNat % 128:Nat):Int):=by rw[Dg (by omega)];rfl
   obtain⟨B,Y⟩:=digit (a:=a) (k:=k) (c:=d.toNat % 128) (by omega) g (by omega);have y:orI (a:Int) (lu ((d.toNat % 128:Nat):Int) ((7*k:Nat):Int))=((a+(d.toNat % 128)*2 ^ (7*k):Nat):Int):=by
    rw[ACj (by omega) (by omega)];rw[AXD (by have:=Fg (n:=128) (by omega) (show k<=5 by omega);omega) (by omega),AZn (by rw[AZr];exact g)]
   rw[G,B4 (by omega),ed,em,y];simp only[rdN];have E:w64 ((k:Int)+1)=((k+1:Nat):Int):=Aq (by omega) (by omega);by_cases H:d.toNat<128
   .grind[rI,Prod.mk.injEq,Aq]
   .rw[AT (by omega),AT H,E,<-hL,PD I hi f (k+1) _ n (by omega) (by omega) B,q]
theorem Oi{b:List UInt8}(Q:b.length<2 ^ 62){i:Nat}(hi:i<2 ^ 62):∀(f k a n:Nat),f+k=5->f<n->a<128 ^ k ->
 A3 (Qu b i) n ((a:Int),(k:Int))=some (rI i (rdN f k a (b.drop (i+k))))
 |0,k,a,n,Y,hn,G=>by
  obtain⟨n,rfl⟩:∃m,n=m+1:=⟨n-1,by omega⟩;rw[Dv];unfold Qu VO dk;simp only[BH,AU];rw[AT (by omega)];rfl
 |f+1,k,a,n,Y,hn,G=>by
  obtain⟨n,rfl⟩:∃m,n=m+1:=⟨n-1,by omega⟩;rw[Dv];generalize hL:A3 (Qu b i) n=L;unfold Qu;simp only[BH,AU];rw[AW (by omega)];unfold VO dk;simp only[BH,AU,CJ,bne_iff_ne,JZ,AB,decide_eq_true_eq];rw[Aq (n:=(i:Int)+k) (by omega) (by omega),show (i:Int)+k=((i+k:Nat):Int) from by push_cast;rfl];cases e:b.drop (i+k) with
  |nil=>
   have:b.length<=i+k:=Fb.1 e;rw[AT (by omega)];rfl
  |cons d l=>
   have hlt:i+k<b.length:=by
    rcases Ab (i+k) b.length with h|h
    .exact h
    .rw[A9 h]at e;cases e
   have S:b[i+k]?=some d:=by
    have:=Bn (xs:=b) (i:=i+k) (j:=0);rw[e]at this;simpa using this.symm
   have y:b.drop (i+(k+1))=l:=by
    rw[<-CO,<-C8,e];rfl
   rw[AW (by omega),FB,S,AB];have X:d.toNat<256:=d.toNat_lt;have J:w64 (7*(k:Int))=((7*k:Nat):Int):=by rw[Aq (by omega) (by omega)];push_cast;rfl
   have ed:w64 ((d.toNat:Nat):Int)=(d.toNat:Int):=Aq (by omega) (by omega);have em:Int.tmod (d.toNat:Int) 128=((d.toNat % 128:Nat):Int):=by rw[Dg (by omega)];rfl
   obtain⟨q,hs2⟩:=digit (a:=a) (k:=k) (c:=d.toNat % 128) (by omega) G (by omega);have B:w64 ((a:Int)+(lu ((d.toNat % 128:Nat):Int) ((7*k:Nat):Int)))=((a+(d.toNat % 128)*2 ^ (7*k):Nat):Int):=by
    rw[ACj (by omega) (by omega),Aq (by omega) (by omega)];push_cast;rfl
   rw[J,B4 (by omega),ed,em,B];simp only[rdN,JZ,AB];have I:w64 ((k:Int)+1)=((k+1:Nat):Int):=Aq (by omega) (by omega);rw[I];by_cases E:d.toNat<128
   .rw[AW (by omega),AW E];have g:128 ^ k<=a+(d.toNat % 128)*2 ^ (7*k)↔d.toNat≠0:=by
     rw[AZr];constructor
     .rintro h O;rw[O]at h;simp at h;omega
     .intro h;have:1*128 ^ k<=d.toNat % 128*128 ^ k:=Ag _ (by omega);omega
    have H:((pN ((a+(d.toNat % 128)*2 ^ (7*k):Nat):Int)).length:Int)≠((k+1:Nat):Int)↔(0<k/\d.toNat=0)\/2147483647<a+(d.toNat % 128)*2 ^ (7*k):=by
     unfold pN;split
     .rename_i Z;rw[Aa];have:=ACD k _ q;rw[g]at this;rw[Ne,Int.ofNat_inj,this];omega
     .simp only[AS];omega
    grind[rI,Aq]
   .rw[AT (by omega),AT E,<-hL,Oi Q hi f (k+1) _ n (by omega) (by omega) q,y]
theorem Nh{b:List UInt8}(c:b.length<2 ^ 62)(i:Int)(hi:i<2 ^ 62):dh b i=some (gN b i):=by
 unfold dh gN;by_cases a:0<=i
 .obtain⟨j,rfl⟩:=A6 a;have:=PD c (i:=j) (by omega) 5 0 0 big (by omega) (JE _ (by omega)) (by omega);refine Eq.trans this ?_;simp only[Aa,Nat.add_zero];split
  .rfl
  .rw[A9 (by omega)];rfl
 .obtain⟨n,e⟩:=Qf 0 (by omega)
  grind[Dv,OW,VL,BH,AU]
theorem NZ{b:List UInt8}(c:b.length<2 ^ 62)(i:Int):dj b i=some (gN b i):=by
 unfold dj gN;simp only[PI,AB,BK,BH];rw[Aq (by omega) (by omega)];by_cases a:0<=i/\i<b.length
 .obtain⟨j,rfl⟩:=A6 a.1;rw[AW (by omega),AW a];have:=Oi c (i:=j) (by omega) 5 0 0 big (by omega) (JE _ (by omega)) (by omega)
  grind
 grind
theorem AYe{n:Nat}(h:n<256):(UInt8.ofNat n).toNat=n:=by simp;omega
theorem uO:∀(f k a n:Nat) (l:List UInt8),(Eu n).length<=f->(k=0\/n≠0)->a+n*2 ^ (7*k)<=2147483647->rdN f k a (Eu n++l)=some (a+n*2 ^ (7*k),k+(Eu n).length)
 |0,k,a,n,l,h,_,_=>by have:=He n;omega|f+1,k,a,n,l,h,q,j=>by
  rcases Ab n 128 with c|c
  .rw[Nd c];simp only[ER,B5,rdN,AJ,AS];rw[AYe (by omega),AW c,JU c,AT (by omega)]
  .rw[SY c]at h ⊢;simp only[ER,rdN,AJ]at h ⊢;rw[AYe (by omega),AT (by omega)];have e:(n % 128+128) % 128=n % 128:=by omega
   have g:a+n % 128*2 ^ (7*k)+n / 128*2 ^ (7*(k+1))=a+n*2 ^ (7*k):=by
    grind[Nat.mod_add_div]
   rw[e,uO f (k+1) _ (n / 128) l (by omega) (by omega) (by rw[g];exact j),g];congr 2;omega
theorem aZ:∀(f k a:Nat) (l:List UInt8) (N m:Nat),rdN f k a l=some (N,m)->∃n l',l=Eu n++l'/\N=a+n*2 ^ (7*k)/\m=k+(Eu n).length/\(k=0\/n≠0)/\N<=2147483647
 |0,k,a,l,N,m,h=>by cases h
 |f+1,k,a,[],N,m,h=>by cases h
 |f+1,k,a,d::l,N,m,h=>by
  have y:d.toNat<256:=d.toNat_lt;simp only[rdN]at h;split at h
  .rename_i e;split at h
   .cases h
   .rename_i B;cases h;refine⟨d.toNat,l,?_,?_,?_,by omega,by omega⟩
    .rw[Nd e];simp
    .rw[JU e]
    .rw[Nd e];rfl
  .rename_i e;obtain⟨n,l',g,E,j,G,q⟩:=aZ f (k+1) _ l N m h;have H:n≠0:=by omega
   have c:128<=d.toNat % 128+128*n:=by omega
   refine⟨d.toNat % 128+128*n,l',?_,?_,?_,.inr (by omega),q⟩
   .rw[SY c,show (d.toNat % 128+128*n) % 128+128=d.toNat by omega,show (d.toNat % 128+128*n) / 128=n by omega,g];simp
   .grind
   .rw[SY c,show (d.toNat % 128+128*n) / 128=n by omega,j];simp only[AJ];omega
def rdL:Nat->List UInt8->AA (List Int)
 |0,_=>none|f+1,[]=>some []|f+1,l=>match rdN 5 0 0 l with|some (n,m)=>(rdL f (l.drop m)).map ((n:Int)::·)|none=>none
def okN(n:Int):Prop:=0<=n/\n<=2147483647
def pL(l:List Int):List UInt8:=l.flatMap pN
theorem ATp{n:Int}(h:okN n):pN n=Eu n.toNat:=by unfold pN;rw[AW (show 0<=n/\n<=2147483647 from h)]
theorem uE{n:Int}(h:okN n):0<(pN n).length:=by rw[ATp h];exact He _
theorem AZv{n:Int}(h:okN n)(l:List UInt8):rdN 5 0 0 (pN n++l)=some (n.toNat,(pN n).length):=by
 rw[ATp h,uO 5 0 0 n.toNat l (Jc (by have:=h.2;omega)) (.inl rfl) (by have:=h.2;simp;omega)];simp
theorem AF3:∀(l:List Int) (f:Nat),(∀n∈l,okN n)->(pL l).length<f->rdL f (pL l)=some l
 | [],f,_,h=>by
  obtain⟨f,rfl⟩:∃g,f=g+1:=⟨f-1,by omega⟩;rfl
 |n::l,f,j,h=>by
  obtain⟨f,rfl⟩:∃g,f=g+1:=⟨f-1,by omega⟩;have a:=j n (by simp);have q:=uE a;have e:pL (n::l)=pN n++pL l:=by simp[pL]
  rw[e]at h ⊢;have c:pN n++pL l≠[]:=by intro h;rw[HO]at h;rw[h.1]at q;simp at q
  rw[rdL.eq_3 _ _ (by simpa using c),AZv a];simp only[EA];rw[AF3 l f (fun m y=>j m (by simp[y])) (by rw[AP]at h;omega)];simp only[Option.map_some,Int.toNat_of_nonneg a.1]
theorem Wi:∀(f:Nat) (s:List UInt8) (l:List Int),rdL f s=some l->s=pL l/\∀n∈l,okN n
 |0,s,l,h=>by cases h
 |f+1,[],l,h=>by cases h;exact⟨rfl,by simp⟩
 |f+1,d::s,l,h=>by
  rw[rdL.eq_3 _ _ (by simp)]at h;split at h
  .rename_i n m B;obtain⟨H,l',c,e,g,_,G⟩:=aZ _ _ _ _ _ _ B;simp only[Nat.mul_zero,Nat.pow_zero,Nat.mul_one,As]at e g;subst e g;rw[Option.map_eq_some_iff]at h;obtain⟨E,j,rfl⟩:=h;rw[c,EA]at j;obtain⟨q,y⟩:=Wi f l' E j;refine⟨?_,?_⟩
   .rw[c,q];simp only[pL,CX];rw[ATp ⟨by omega,by omega⟩];simp
   .intro x a;rcases List.mem_cons.1 a with rfl|a
    .exact⟨by omega,by omega⟩
    .exact y x a
  .cases h
def AF2:AA (List Int)->List Int×Bool|some l=>(l,true)|none=>([],false)
theorem kQ{b:List UInt8}(y:b.length<=1048576){G:List UInt8->Int->AA (Int×Int×Bool)}(hG:∀i:Int,i<2 ^ 62->G b i=some (gN b i))
 {F:(List Int×Int->AA (List Int×Bool))->List Int×Int->AA (List Int×Bool)}
 (hF:∀L acc i,F L (acc,i)=if i<(b.length:Int) then bd (G b i) fun x=>br (!x.2.2) (some ([],false)) (gd (acc.length+1<=lim) (L (acc++[x.1],x.2.1))) else some (acc,true)) :
 ∀(f i n:Nat) (acc:List Int),b.length<f+i->f<=n->acc.length<=i->i<=b.length->A3 F n (acc,(i:Int))=some (match rdL f (b.drop i) with|some l=>(acc++l,true)|none=>([],false))
 |0,i,n,acc,e,g,j,q=>by omega|f+1,i,n,acc,e,g,j,q=>by
  obtain⟨n,rfl⟩:∃m,n=m+1:=⟨n-1,by omega⟩;rw[Dv,hF];by_cases hi:i<b.length
  .rw[AW (by omega),hG _ (by omega),AB];unfold gN;rw[AW (by omega),Aa];have c:b.drop i≠[]:=by intro h;rw[Fb]at h;omega
   rw[rdL.eq_3 _ _ (by simpa using c)];cases B:rdN 5 0 0 (b.drop i) with
   |none=>rfl|some p=>
    obtain⟨v,m⟩:=p;obtain⟨H,l',E,J,O,_,_⟩:=aZ _ _ _ _ _ _ B;have I:0<m:=by have:=He H;omega
    have a:i+m<=b.length:=by
     have:=congrArg List.length E;rw[List.length_drop,AP]at this;omega
    simp only[rI,BK,BL];rw[B4 (by unfold lim;omega),kQ y hG hF f (i+m) n (acc++[(v:Int)]) (by omega) (by omega) (by rw[AP];simp;omega) a,<-C8]
    grind
  .rw[AT (by omega),A9 (by omega)];simp[rdL]
theorem Wy{b:List UInt8}(a:b.length<=1048576):zG b=some (AF2 (rdL (b.length+1) b)):=by
 unfold zG;have:=kQ a (G:=dh) (F:=di b) (fun i hi=>Nh (by omega) i hi) (fun L acc i=>by unfold di zH;simp only[BH,AU];rfl) (b.length+1) 0 big [] (by omega) (by have:=PU;omega) (by simp) (by omega);refine Eq.trans this ?_;simp only[Cp,B5];cases rdL (b.length+1) b<;>rfl
theorem WI{b:List UInt8}(a:b.length<=1048576):zI b=some (AF2 (rdL (b.length+1) b)):=by
 unfold zI;have:=kQ a (G:=dj) (F:=dm b) (fun i hi=>NZ (by omega) i) (fun L acc i=>by unfold dm zJ;simp only[BH,AU];rfl) (b.length+1) 0 big [] (by omega) (by have:=PU;omega) (by simp) (by omega);refine Eq.trans this ?_;simp only[Cp,B5];cases rdL (b.length+1) b<;>rfl
theorem kG{l:List Int}(h:l.length<=10000000){G:Int->AA (List UInt8)}(hG:∀n,G n=some (pN n))
 {F:(List UInt8×Int->AA (List UInt8))->List UInt8×Int->AA (List UInt8)}
 (hF:∀L acc i,F L (acc,i)=if i<(l.length:Int) then bd (at? l i) fun x=>bd (G x) fun y=>gd (acc.length+y.length<=lim) (L (acc++y,w64 (i+1))) else some acc) :
 ∀(f i n:Nat) (acc:List UInt8),l.length<f+i->f<=n->acc.length<=5*i->i<=l.length->A3 F n (acc,(i:Int))=some (acc++pL (l.drop i))
 |0,i,n,acc,a,c,e,g=>by omega|f+1,i,n,acc,a,c,e,g=>by
  obtain⟨n,rfl⟩:∃m,n=m+1:=⟨n-1,by omega⟩;rw[Dv,hF];by_cases hi:i<l.length
  .rw[AW (by omega),FB,AV hi,AB,hG,AB];have:=N4 l[i];rw[B4 (by unfold lim;omega),Aq (by omega) (by omega)];have:=kG h hG hF f (i+1) n (acc++pN l[i]) (by omega) (by omega) (by rw[AP];omega) hi;refine Eq.trans this ?_;rw[GV hi];simp only[pL,CX,List.append_assoc]
  .rw[AT (by omega),A9 (by omega)];simp[pL]
theorem Wx{l:List Int}(a:l.length<=10000000):ZC l=some (pL l):=by
 unfold ZC;have:=kG a (G:=cV) (F:=dG l) Rr (fun L acc i=>by unfold dG yO;simp only[BH,AU]) (l.length+1) 0 big [] (by omega) (by have:=PU;omega) (by simp) (by omega);simpa using this
theorem WJ{l:List Int}(a:l.length<=10000000):yY l=some (pL l):=by
 unfold yY;have:=kG a (G:=VC) (F:=dO l) JZ (fun L acc i=>by unfold dO yZ;simp only[BH,AU]) (l.length+1) 0 big [] (by omega) (by have:=PU;omega) (by simp) (by omega);simpa using this
def fld(n:Int):Bool:=decide (0<=n/\n<=9999)
def HJ(q:Bo):Bool:=
 if q.Kind=1 then fld q.Id&&fld q.AY&&decide (-1<=q.Bk/\q.Bk<=9999)&&fld q.BB&&fld q.Cv
 else if q.Kind=2\/q.Kind=4\/q.Kind=5\/q.Kind=7 then fld q.Id&&(q.AY==0&&(q.Bk==0&&(q.BB==0&&q.Cv==0)))
 else if q.Kind=3 then fld q.AY&&fld q.BB&&(q.Id==0&&(q.Bk==0&&q.Cv==0))
 else if q.Kind=6 then q.Id==0&&(q.AY==0&&(q.Bk==0&&(q.BB==0&&q.Cv==0)))
 else false
def EY(q:Bo):List Int:=
 if q.Kind=1 then [q.Kind,q.Id,q.AY,q.Bk+1,q.BB,q.Cv]
 else if q.Kind=3 then [q.Kind,q.AY,q.BB]
 else if q.Kind=6 then [q.Kind]
 else [q.Kind,q.Id]
def Gf(q:Bo):List UInt8:=if HJ q then pL (EY q) else []
@[simp] theorem AGO(n:Int):QM n=some (fld n):=by unfold QM fld;simp
@[simp] theorem AFJ(n:Int):QN n=some (fld n):=by unfold QN fld;simp
theorem AGN(q:Bo):Ug q=some (HJ q):=by
 obtain⟨k,a,b,c,d,e⟩:=q;unfold Ug GW OK GW HJ;simp only[CJ,AU,AGO,AB,aQ,beq_iff_eq]
 grind
theorem AFI(q:Bo):U8 q=some (HJ q):=by
 obtain⟨k,a,b,c,d,e⟩:=q;unfold U8 GX OU GX HJ;simp only[CJ,AU,AFJ,AB,PI,beq_iff_eq]
 grind
theorem IM{q:Bo}(h:HJ q=true):(q.Kind=1/\(0<=q.Id/\q.Id<=9999)/\(0<=q.AY/\q.AY<=9999)/\(-1<=q.Bk/\q.Bk<=9999)/\(0<=q.BB/\q.BB<=9999)/\(0<=q.Cv/\q.Cv<=9999)) \/
 ((q.Kind=2\/q.Kind=4\/q.Kind=5\/q.Kind=7)/\(0<=q.Id/\q.Id<=9999)/\q.AY=0/\q.Bk=0/\q.BB=0/\q.Cv=0) \/
 (q.Kind=3/\(0<=q.AY/\q.AY<=9999)/\(0<=q.BB/\q.BB<=9999)/\q.Id=0/\q.Bk=0/\q.Cv=0) \/
 (q.Kind=6/\q.Id=0/\q.AY=0/\q.Bk=0/\q.BB=0/\q.Cv=0):=by
 unfold HJ fld at h;split at h
 .grind
 split at h
 .grind
 split at h
 .grind
 grind
theorem kU{q:Bo}(h:HJ q=true):∀n∈EY q,okN n:=by
 grind[IM,EY,okN]
theorem Zh(q:Bo):0<(EY q).length/\(EY q).length<=6:=by
 grind[EY]
theorem TJ{q:Bo}:zZ q=some (Gf q):=by
 unfold zZ Gf;rw[AGN,AB,BK,CJ]
 grind[HJ,EY,CJ,Aq,Wx,AB]
theorem S5{q:Bo}:zf q=some (Gf q):=by
 grind[zf,Qv,Gf,AFI,AB,CJ,HJ,EY,AU,B4,lim,Aq,WJ]
theorem Rh{n:Int}{l:List Int}(h:okN n):pL (n::l)≠[]:=by
 intro a;have:=uE h;simp only[pL,CX,HO]at a
 grind
theorem AKM{q:Bo}(h:HJ q=true):Gf q≠[]:=by
 grind[Gf,kU,EY,Rh]
theorem ATo:∀l:List Int,(pL l).length<=5*l.length
 | []=>by simp[pL]|n::l=>by
  have c:=N4 n;have a:=ATo l;simp only[pL,CX,AP,AJ]at a ⊢;omega
theorem AU9(q:Bo):(Gf q).length<=30:=by
 grind[Gf,ATo,Zh]
theorem O6{q:Bo}(h:HJ q=true)(f:Nat)(a:(Gf q).length<f):rdL f (Gf q)=some (EY q):=by
 grind[Gf,AF3,kU]
noncomputable def NA(s:List UInt8):Bo×Bool:=open Classical in if h:∃q,HJ q=true/\Gf q=s then (h.choose,true) else (⟨0,0,0,0,0,0⟩,false)
theorem ACV{q q':Bo}(h:HJ q=true)(a:HJ q'=true)(c:EY q=EY q'):q=q':=by
 grind[Bo,EY,IM]
theorem AU8{q q':Bo}(h:HJ q=true)(a:HJ q'=true)(e:Gf q=Gf q'):q=q':=by
 have c:=O6 h ((Gf q).length+1) (by omega)
 grind[O6,ACV]
theorem AVA{q:Bo}(h:HJ q=true):NA (Gf q)=(q,true):=by
 unfold NA;have a:∃q',HJ q'=true/\Gf q'=Gf q:=⟨q,h,rfl⟩
 grind[AU8]
theorem Ku{s:List UInt8}(h:∀q,HJ q=true->Gf q≠s):NA s=(⟨0,0,0,0,0,0⟩,false):=by
 grind[NA]
theorem qI{γ:Type}(a b:List UInt8)(x y:AA γ):br (a != b) x y=if a=b then y else x:=by
 unfold br
 grind[grind]
theorem Z7(s:List UInt8)(q:Bo):OX s q=if Gf q=s then some (q,true) else some (⟨0,0,0,0,0,0⟩,false):=by
 unfold OX;rw[TJ,AB,qI]
theorem Z4(s:List UInt8)(q:Bo):OY s q=if Gf q=[]\/Gf q≠s then some (⟨0,0,0,0,0,0⟩,false) else some (q,true):=by
 grind[OY,dp,S5,AB,AU,BL,Gf,CJ]
theorem Jf{s:List UInt8}{q:Bo}(a:s≠[])(h:∀q',HJ q'=true->Gf q'=s->q'=q):(if Gf q=s then some (q,true) else some (⟨0,0,0,0,0,0⟩,false))=some (NA s):=by
 grind[Gf,HJ,AVA,Ku]
theorem o9{s:List UInt8}{f:Nat}(h:rdL f s=none)(a:s.length<f):∀q,HJ q=true->Gf q≠s:=by
 grind[O6]
theorem Wu{s:List UInt8}(S:s.length<=1048576):nB s=some (NA s):=by
 unfold nB;rw[BH];by_cases H:(s.length:Int)>60
 .rw[AW H,Ku];rintro q _ rfl;have:=AU9 q;omega
 rw[AT H,Wy S,AB];cases L:rdL (s.length+1) s with
 |none=>
  simp only[AF2,BK,BO,AU];unfold VN;rw[BL,Ku (o9 L (by omega))]
 |some l=>
  obtain⟨J,I⟩:=Wi _ _ _ L;simp only[AF2,BK,BL,AU];unfold VN;cases l with
  |nil=>
   simp only[AS];show br true _ _=_;rw[BL,Ku];rintro q j B;exact AKM j (B.trans J)
  |cons n l=>
   have E:s≠[]:=by rw[J];exact Rh (I n (by simp))
   have O:((((n::l).length:Nat):Int)==0)=false:=by rw[AJ,beq_eq_false_iff_ne];omega
   have G:∀q,HJ q=true->Gf q=s->EY q=n::l:=by
    rintro q j rfl;have:=O6 j ((Gf q).length+1) (by omega);rw[L]at this;simpa using this.symm
   simp only[O,BO];simp only[UX,AK,AB,Z7,AU,CJ,beq_iff_eq];have okq:∀m∈n::l,0<=m/\m<=2147483647:=fun m Q=>I m Q
   match l,G,okq with
   | [],G,_=>
    rw[AT (by simp),AT (by simp),AT (by simp)];refine Jf E fun q j B=>?_
    obtain⟨k,a,b,c,d,e⟩:=q;have g:=G _ j B;unfold EY at g;rcases IM j with h|h|h|h<;>dsimp only at h g
    .rw[AW h.1]at g;simp at g
    .rw[AT (by omega),AT (by omega),AT (by omega)]at g;simp at g
    .rw[AT (by omega),AW h.1]at g;simp at g
    .rw[AT (by omega),AT (by omega),AW h.1]at g;simp at g;simp;omega
   | [x],G,okq=>
    rw[AW (by simp)];simp only[show at? [n,x] 1=some x from rfl,AB];refine Jf E fun q j B=>?_
    obtain⟨k,a,b,c,d,e⟩:=q;have g:=G _ j B;unfold EY at g;rcases IM j with h|h|h|h<;>dsimp only at h g
    .rw[AW h.1]at g;simp at g
    .rw[AT (by omega),AT (by omega),AT (by omega)]at g;simp at g;simp;omega
    .rw[AT (by omega),AW h.1]at g;simp at g
    .rw[AT (by omega),AT (by omega),AW h.1]at g;simp at g
   | [x,y],G,okq=>
    rw[AT (by simp),AW (by simp)];simp only[show at? [n,x,y] 1=some x from rfl,show at? [n,x,y] 2=some y from rfl,AB];refine Jf E fun q j B=>?_
    obtain⟨k,a,b,c,d,e⟩:=q;have g:=G _ j B;unfold EY at g;rcases IM j with h|h|h|h<;>dsimp only at h g
    .rw[AW h.1]at g;simp at g
    .rw[AT (by omega),AT (by omega),AT (by omega)]at g;simp at g
    .rw[AT (by omega),AW h.1]at g;simp at g;simp;omega
    .rw[AT (by omega),AT (by omega),AW h.1]at g;simp at g
   | [x,y,z,u,v],G,okq=>
    have X:=okq z (by simp);rw[AT (by simp),AT (by simp),AW (by simp)];simp only[show at? [n,x,y,z,u,v] 1=some x from rfl,show at? [n,x,y,z,u,v] 2=some y from rfl,show at? [n,x,y,z,u,v] 3=some z from rfl,show at? [n,x,y,z,u,v] 4=some u from rfl,show at? [n,x,y,z,u,v] 5=some v from rfl,AB];rw[Aq (by omega) (by omega)];refine Jf E fun q j B=>?_
    obtain⟨k,a,b,c,d,e⟩:=q;have g:=G _ j B;unfold EY at g;rcases IM j with h|h|h|h<;>dsimp only at h g
    .rw[AW h.1]at g;simp at g;simp;omega
    .rw[AT (by omega),AT (by omega),AT (by omega)]at g;simp at g
    .rw[AT (by omega),AW h.1]at g;simp at g
    .rw[AT (by omega),AT (by omega),AW h.1]at g;simp at g
   | [x,y,z],G,okq=>
    rw[AT (by simp),AT (by simp),AT (by simp)];refine Jf E fun q j B=>?_
    have g:=congrArg List.length (G _ j B)
    have:(EY q).length≠4:=by unfold EY;repeat' split
                             all_goals simp
    simp at g;omega
   | [x,y,z,u],G,okq=>
    rw[AT (by simp),AT (by simp),AT (by simp)];refine Jf E fun q j B=>?_
    have g:=congrArg List.length (G _ j B)
    have:(EY q).length≠5:=by unfold EY;repeat' split
                             all_goals simp
    simp at g;omega
   |x::y::z::u::v::w::r,G,okq=>
    rw[AT (by simp;omega),AT (by simp;omega),AT (by simp;omega)];refine Jf E fun q j B=>?_
    have g:=congrArg List.length (G _ j B);have:=(Zh q).2;simp at g;omega
theorem WK{s:List UInt8}{q:Bo}(a:s≠[])(h:∀q',HJ q'=true->Gf q'=s->q'=q):(if Gf q=[]\/Gf q≠s then some (⟨0,0,0,0,0,0⟩,false) else some (q,true))=some (NA s):=by
 grind[Jf,Gf]
theorem s7{s:List UInt8}(hs:s.length<=1048576):zK s=some (NA s):=by
 unfold zK;rw[WI hs,AB];cases Z:rdL (s.length+1) s with
 |none=>
  simp only[AF2,BK,BO,AU];unfold VP;rw[BL,Ku (o9 Z (by omega))]
 |some l=>
  obtain⟨I,H⟩:=Wi _ _ _ Z;simp only[AF2,BK,BL,AU];unfold VP;cases l with
  |nil=>
   simp only[AS];show br true _ _=_;rw[BL,Ku];rintro q j G;exact AKM j (G.trans I)
  |cons n l=>
   have B:s≠[]:=by rw[I];exact Rh (H n (by simp))
   have hb:((((n::l).length:Nat):Int)==0)=false:=by rw[AJ,beq_eq_false_iff_ne];omega
   have hq:∀q,HJ q=true->Gf q=s->EY q=n::l:=by
    rintro q j rfl;have:=O6 j ((Gf q).length+1) (by omega);rw[Z]at this;simpa using this.symm
   have Y:(n::l).length<=s.length:=by
    rw[I];have:∀l:List Int,(∀m∈l,okN m)->l.length<=(pL l).length:=by
     intro l
     induction l with
     |nil=>simp|cons m l ih=>
      intro h;have j:=uE (h m (by simp));have G:=ih fun x J=>h x (by simp[J])
      simp only[pL,CX,AP,AJ]at G ⊢;omega
    exact this _ H
   rw[AJ]at Y;have e1:Int.toNat 1=1:=rfl;have e5:Int.toNat 5=5:=rfl;have ed:List.take ((n::l).length-1) (List.drop 1 (n::l))=l:=by simp
   simp only[hb,BO];simp only[UX,AK,AB,Z4,AU,CJ,beq_iff_eq,e1,e5,ed];rw[B4 (by simp;omega),B4 (by simp;omega),B4 (by unfold lim;omega)];have okq:∀m∈n::l,0<=m/\m<=2147483647:=fun m hm=>H m hm
   have J:∀(i:Nat),i<5->∃x,(l++List.replicate 5 (0:Int))[i]?=some x/\(0<=x/\x<=2147483647)/\(∀y,l[i]?=some y->x=y):=by
    intro i hi;have O:i<(l++List.replicate 5 (0:Int)).length:=by rw[AP,List.length_replicate];omega
    refine⟨_,AV O,?_,?_⟩
    .have:(l++List.replicate 5 (0:Int))[i]∈l++List.replicate 5 (0:Int):=List.getElem_mem O;rw[List.mem_append,List.mem_replicate]at this;rcases this with h|h
     .exact okq _ (List.mem_cons_of_mem _ h)
     .omega
    .intro y hy;have X:=(List.getElem?_eq_some_iff.1 hy);obtain⟨j,G⟩:=X;rw[List.getElem_append_left j,G]
   obtain⟨S,hx0,b0,i0⟩:=J 0 (by omega);obtain⟨x1,hx1,b1,i1⟩:=J 1 (by omega);obtain⟨x2,hx2,b2,i2⟩:=J 2 (by omega);obtain⟨x3,hx3,b3,i3⟩:=J 3 (by omega);obtain⟨x4,hx4,b4,i4⟩:=J 4 (by omega);have a0:(l++List.replicate 5 (0:Int))[0]?=some S:=hx0;have a1:at? (l++List.replicate 5 (0:Int)) 1=some x1:=by rw[show (1:Int)=((1:Nat):Int) from rfl,FB];exact hx1
   have a2:at? (l++List.replicate 5 (0:Int)) 2=some x2:=by rw[show (2:Int)=((2:Nat):Int) from rfl,FB];exact hx2
   have a3:at? (l++List.replicate 5 (0:Int)) 3=some x3:=by rw[show (3:Int)=((3:Nat):Int) from rfl,FB];exact hx3
   have a4:at? (l++List.replicate 5 (0:Int)) 4=some x4:=by rw[show (4:Int)=((4:Nat):Int) from rfl,FB];exact hx4
   simp only[a0,a1,a2,a3,a4,AB];rw[Aq (n:=x2-1) (by omega) (by omega)];have shape:∀q,HJ q=true->Gf q=s->q=(if n=1 then ⟨n,S,x1,x2-1,x3,x4⟩ else if n=3 then ⟨n,0,S,0,x1,0⟩ else if n=6 then ⟨n,0,0,0,0,0⟩ else ⟨n,S,0,0,0,0⟩):=by
    intro q j G;obtain⟨k,a,b,c,d,e⟩:=q;have g:=hq _ j G;unfold EY at g;rcases IM j with h|h|h|h<;>dsimp only at h g
    .rw[AW h.1]at g;obtain⟨rfl,rfl⟩:=List.cons.inj g;rw[AW h.1];have j0:=i0 _ rfl;have j1:=i1 _ rfl;have j2:=i2 _ rfl;have j3:=i3 _ rfl;have j4:=i4 _ rfl;simp;omega
    .rw[AT (by omega),AT (by omega),AT (by omega)]at g;obtain⟨rfl,rfl⟩:=List.cons.inj g;rw[AT (by omega),AT (by omega),AT (by omega)];have j0:=i0 _ rfl;simp;omega
    .rw[AT (by omega),AW h.1]at g;obtain⟨rfl,rfl⟩:=List.cons.inj g;rw[AT (by omega),AW h.1];have j0:=i0 _ rfl;have j1:=i1 _ rfl;simp;omega
    .rw[AT (by omega),AT (by omega),AW h.1]at g;obtain⟨rfl,rfl⟩:=List.cons.inj g;rw[AT (by omega),AT (by omega),AW h.1];simp;omega
   by_cases E:n=1
   .rw[AW E];simp only[AW E]at shape;exact WK B shape
   by_cases L:n=3
   .rw[AT E,AW L];simp only[AT E,AW L]at shape;exact WK B shape
   by_cases Q:n=6
   .rw[AT E,AT L,AW Q];simp only[AT E,AT L,AW Q]at shape;exact WK B shape
   .rw[AT E,AT L,AT Q];simp only[AT E,AT L,AT Q]at shape;exact WK B shape
@[simp] theorem AZH(q:Bo):cQ q q=some true:=by
 unfold cQ;simp[CJ]
def XL(v:Nat):Nat:=if v % 2=1 then (v / 2) ^^^ 3988292384 else v / 2
def Ub:Nat->Nat->Nat|0,v=>v|k+1,v=>Ub k (XL v)
def SC:Nat->List UInt8->Nat|v,[]=>v|v,x::l=>SC (Ub 8 (v ^^^ x.toNat)) l
def Js(s:List UInt8):Nat:=SC 4294967295 s ^^^ 4294967295
theorem mU{v:Nat}(h:v<2 ^ 32):XL v<2 ^ 32:=by
 unfold XL;split
 .exact Da (by omega) (by omega)
 .omega
theorem TY:∀k {v:Nat},v<2 ^ 32->Ub k v<2 ^ 32|0,_,h=>h|k+1,_,h=>TY k (mU h)
theorem TZ:∀(l:List UInt8) {v:Nat},v<2 ^ 32->SC v l<2 ^ 32| [],_,h=>h|x::l,v,h=>TZ l (TY 8 (Da h (by have:=x.toNat_lt;omega)))
theorem PL{a b:Nat}(c:a<2 ^ 63)(e:b<2 ^ 63):aA (a:Int) (b:Int)=((a ^^^ b:Nat):Int):=by
 unfold aA;rw[BitVec.toNat_xor,Ov c,Ov e];have:a ^^^ b<2 ^ 63:=Da c e;rw[XA (by omega) (by omega)]
theorem AN2{a b:Nat}(c:a<2 ^ 63)(e:b<2 ^ 63):AYm (a:Int) (b:Int)=((a &&& b:Nat):Int):=by
 grind[Ov,Nat.and_le_left,XA]
theorem Aa2(a:Nat):Dy (a:Int) 1=((a / 2:Nat):Int):=by
 grind[IntKind.bits]
theorem bG{γ:Type}{F:(Int×Int->AA γ)->Int×Int->AA γ}{G:Int->AA γ}
 (hF:∀L (v k:Nat),v<2 ^ 32->k<=8->F L ((v:Int),(k:Int))=if k<8 then L (((XL v:Nat):Int),((k+1:Nat):Int)) else G (v:Int)) :
 ∀(m k v n:Nat),k+m=8->m<n->v<2 ^ 32->A3 F n ((v:Int),(k:Int))=G ((Ub m v:Nat):Int)
 |0,k,v,0,_,h,_=>by omega|0,k,v,n+1,c,_,a=>by rw[Dv,hF _ _ _ a (by omega),AT (by omega)];rfl|m+1,k,v,0,_,h,_=>by omega|m+1,k,v,n+1,c,h,a=>by
  rw[Dv,hF _ _ _ a (by omega),AW (by omega),bG hF m (k+1) _ n (by omega) (by omega) (mU a)];rfl
theorem bF{s:List UInt8}{γ:Type}{F:(Int×Int->AA γ)->Int×Int->AA γ}{G:Int->AA γ}(e:s.length<2 ^ 62)
 (hF:∀L (v i:Nat),v<2 ^ 32->i<=s.length->F L ((v:Int),(i:Int))=match s[i]? with|none=>G (v:Int)|some x=>L (((Ub 8 (v ^^^ x.toNat):Nat):Int),((i+1:Nat):Int))) :
 ∀(m i v n:Nat),i+m=s.length->m<n->v<2 ^ 32->A3 F n ((v:Int),(i:Int))=G ((SC v (s.drop i):Nat):Int)
 |0,i,v,0,_,h,_=>by omega|0,i,v,n+1,hi,_,c=>by
  rw[Dv,hF _ _ _ c (by omega),DJ (by omega),A9 (by omega)];rfl
 |m+1,i,v,0,_,h,_=>by omega|m+1,i,v,n+1,hi,h,c=>by
  have a:i<s.length:=by omega
  rw[Dv,hF _ _ _ c (by omega),AV a];dsimp only;rw[bF e hF m (i+1) _ n (by omega) (by omega) (TY 8 (Da c (by have:=s[i].toNat_lt;omega))),GV a];rfl
theorem ACn{s:List UInt8}(B:s.length<2 ^ 62):yP s=some ((Js s:Nat):Int):=by
 unfold yP;have:=bF (F:=dI s) (G:=fun v=>some (aA v 4294967295)) B ?_ s.length 0 4294967295 big (by omega) (JE _ (by omega)) (by omega)
 .refine Eq.trans this ?_;have e:=PL (a:=SC 4294967295 s) (b:=4294967295) (by have:=TZ s (v:=4294967295) (by omega);omega) (by omega);show some (aA _ ((4294967295:Nat):Int))=_;rw[Cp,e];rfl
 .intro L v i j hi;unfold dI yR;simp only[BH,AU,FB];by_cases h:i<s.length
  .rw[AW (by omega),AV h,AB];dsimp only;have H:=s[i].toNat_lt;rw[Aq (by omega) (by omega),PL (by omega) (by omega)];have:=bG (F:=dJ L (i:Int)) (G:=fun v=>L (v,((i+1:Nat):Int))) ?_ 8 0 (v ^^^ s[i].toNat) big (by omega) (JE _ (by omega)) (Da j (by omega))
   .exact this
   .intro L5 v k j E;unfold dJ dH yQ;simp only[BH,AU];by_cases g:k<8
    .rw[AW (by omega),AW g];have q:Int.tmod (v:Int) 2=((v % 2:Nat):Int):=by rw[Dg (by omega)];omega
     have y:Int.tdiv (v:Int) 2=((v / 2:Nat):Int):=by rw[GJ (by omega)];omega
     rw[q,y,Aq (by omega) (by omega),Aq (n:=(k:Int)+1) (by omega) (by omega),CJ,show (3988292384:Int)=((3988292384:Nat):Int) from rfl,PL (by omega) (by omega)];unfold XL;by_cases c:v % 2=1
     .rw[AW (by rw[c];rfl),AW c];rfl
     .rw[AT (by rw[beq_iff_eq];omega),AT c];rfl
    .rw[AT (by omega),AT g,Aq (by omega) (by omega)];rfl
  .rw[AT (by omega),DJ (by omega)]
theorem ABa{s:List UInt8}(y:s.length<2 ^ 62):ya s=some ((Js s:Nat):Int):=by
 unfold ya;have:=bF (F:=dQ s) (G:=fun v=>some (aA v 4294967295)) y ?_ s.length 0 4294967295 big (by omega) (JE _ (by omega)) (by omega)
 .refine Eq.trans this ?_;have e:=PL (a:=SC 4294967295 s) (b:=4294967295) (by have:=TZ s (v:=4294967295) (by omega);omega) (by omega);show some (aA _ ((4294967295:Nat):Int))=_;rw[Cp,e];rfl
 .intro L v i j hi;unfold dQ yc;simp only[BH,AU,FB];by_cases h:i<s.length
  .rw[AW (by omega),AV h,AB];dsimp only;have E:=s[i].toNat_lt;rw[Aq (by omega) (by omega),PL (by omega) (by omega)];have:=bG (F:=dR L (i:Int)) (G:=fun v=>L (v,((i+1:Nat):Int))) ?_ 8 0 (v ^^^ s[i].toNat) big (by omega) (JE _ (by omega)) (Da j (by omega))
   .exact this
   .intro L5 v k j B;unfold dR dP yb;simp only[BH,AU];by_cases g:k<8
    .rw[AW (by omega),AW g];have q:AYm (v:Int) 1=((v % 2:Nat):Int):=by
      rw[show (1:Int)=((1:Nat):Int) from rfl,AN2 (by omega) (by omega),Nat.and_one_is_mod]
     rw[q,Aa2,Aq (n:=(k:Int)+1) (by omega) (by omega),CJ,show (3988292384:Int)=((3988292384:Nat):Int) from rfl,PL (by omega) (by omega)];unfold XL;by_cases c:v % 2=1
     .rw[AW (by rw[c];rfl),AW c];rfl
     .rw[AT (by rw[beq_iff_eq];omega),AT c];rfl
    .rw[AT (by omega),AT g,Aq (by omega) (by omega)];rfl
  .rw[AT (by omega),DJ (by omega)]
def four(c:Int):List UInt8:=[toB (Dy c 24),toB (Dy c 16),toB (Dy c 8),toB c]
theorem Hk(c:Int):(four c).length=4:=rfl
def Pf(q:Int)(b:List UInt8):Prop:=(1<=q/\q<=1000000)/\(1<=b.length/\b.length<=60)
instance (q:Int) (b:List UInt8):Decidable (Pf q b):=by unfold Pf;infer_instance
def frT(q:Int)(b:List UInt8):List UInt8:=four ((Js (pN q++b):Nat):Int)++(pN q++b)
def frB(q:Int)(b:List UInt8):List UInt8:=if Pf q b then pN ((frT q b).length:Int)++frT q b else []
theorem NW{q:Int}{b:List UInt8}(h:Pf q b):6<=(frT q b).length/\(frT q b).length<=69:=by
 have a:=N4 q;have c:0<(pN q).length:=by unfold pN;rw[AW (by have:=h.1;omega)];exact He _
 have:=h.2;simp only[frT,AP,Hk];omega
theorem V8{q:Int}{b:List UInt8}(h:Pf q b):7<=(frB q b).length/\(frB q b).length<=74:=by
 have:=NW h;have a:=N4 ((frT q b).length:Int);have c:0<(pN ((frT q b).length:Int)).length:=by unfold pN;rw[AW (by omega)];exact He _
 unfold frB;rw[AW h,AP];omega
theorem API{q:Int}{b:List UInt8}(h:frB q b≠[]):Pf q b:=by
 grind[frB]
theorem QA(q:Int)(b:List UInt8):za q b=some (frB q b):=by
 unfold za eB;simp only[aQ,AB,AU,BK,BL];by_cases c:1<=q/\q<=1000000
 .rw[decide_eq_true c,BL];by_cases g:(1:Int)<=b.length/\(b.length:Int)<=60
  .have a:Pf q b:=⟨c,by omega⟩;have j:=N4 q;rw[decide_eq_true g,BL,Rr,AB,B4 (by unfold N5;omega),ACn (by rw[AP];omega),AB];unfold yS;rw[AB,B4 (by simp only[AP,AJ,AS];unfold N5;omega),Rr,AB];have e:[toB (Dy ((Js (pN q++b):Nat):Int) 24),toB (Dy ((Js (pN q++b):Nat):Int) 16),toB (Dy ((Js (pN q++b):Nat):Int) 8),toB ((Js (pN q++b):Nat):Int)]++(pN q++b)=frT q b:=rfl;rw[e];have:=N4 ((frT q b).length:Int);have:=NW a;rw[B4 (by unfold N5;omega)];unfold frB;rw[AW a]
  .rw[decide_eq_false g,BO];unfold frB;rw[AT (fun h=>g ⟨by have:=h.2;omega,by have:=h.2;omega⟩)]
 .rw[decide_eq_false c,BO];unfold frB;rw[AT (fun h=>c h.1)]
theorem Po(q:Int)(b:List UInt8):zD q b=some (frB q b):=by
 unfold zD db;simp only[PI,AB,AU,BK,BL];by_cases c:1<=q/\q<=1000000
 .rw[decide_eq_true c,BL];by_cases g:(1:Int)<=b.length/\(b.length:Int)<=60
  .have a:Pf q b:=⟨c,by omega⟩;have j:=N4 q;rw[decide_eq_true g,BL,JZ,AB,B4 (by unfold lim;omega),ABa (by rw[AP];omega),AB];rw[B4 (by simp only[AP,AJ,AS];unfold lim;omega),JZ,AB];have e:[toB (Dy ((Js (pN q++b):Nat):Int) 24),toB (Dy ((Js (pN q++b):Nat):Int) 16),toB (Dy ((Js (pN q++b):Nat):Int) 8),toB ((Js (pN q++b):Nat):Int)]++(pN q++b)=frT q b:=rfl;rw[e];have:=N4 ((frT q b).length:Int);have:=NW a;rw[B4 (by unfold N5;omega)];unfold frB;rw[AW a]
  .rw[decide_eq_false g,BO];unfold frB;rw[AT (fun h=>g ⟨by have:=h.2;omega,by have:=h.2;omega⟩)]
 .rw[decide_eq_false c,BO];unfold frB;rw[AT (fun h=>c h.1)]
end Lv.P
namespace Lv.P
open Lv Go
theorem Hq{α:Type}{l:List α}{i:Int}(a:0<=i)(c:i<l.length):∃x,at? l i=some x:=by
 obtain⟨n,rfl⟩:=A6 a;exact⟨_,BG (by omega)⟩
theorem V9{x:Int}(a:0<=x)(c:x<1152921504606846976):w64 (Dy (IntKind.u64.wrap (w64 x)) 1)=x / 2:=by
 obtain⟨n,rfl⟩:=A6 a
 grind[Aq,IntKind.wrap,IntKind.signed,IntKind.bits,Aa2]
def Ln{α:Type}(n:Nat)(x:AA (List α)):Prop:=∃r,x=some r/\r.length=n
theorem JD(k:Nat)(h:k<2 ^ 64):k<big:=JE k h
theorem AYW{α:Type}{cmp:α->α->AA Int}(g:∀x y,∃c,cmp x y=some c){l:List α}{a b:Int}(h0:0<=a)(ha:a<=l.length)(hb:b<=l.length)(hl:l.length<1099511627776):Ln l.length (DE cmp l a b):=by
 unfold DE;rw[Aq (by omega) (by omega)];refine Kk (fun x=>x.1.length=l.length/\a+1<=x.2/\x.2<=2*1099511627776) (fun x=>(b-x.2).toNat) (fun r:List α=>r.length=l.length) ?_ big (l,a+1) ⟨rfl,by dsimp only;omega,by dsimp only;omega⟩ (JD _ (by dsimp only;omega));rintro L ⟨v,i⟩ ⟨E,hi,q⟩ H;dsimp only at E hi q H;unfold DU;dsimp only;rw[BH];split
 .rename_i Q;refine Kk (fun x=>x.1.length=l.length/\a<=x.2/\x.2<=i) (fun x=>(x.2-a).toNat) (fun r:List α=>r.length=l.length) ?_ big (v,i) ⟨E,by dsimp only;omega,by dsimp only;omega⟩ (JD _ (by dsimp only;omega));rintro L' ⟨u,j⟩ ⟨e,S,B⟩ h;dsimp only at e S B h;have out:∀(u:List α),u.length=l.length->∃r,Dx cmp L i u=some r/\r.length=l.length:=by
   intro u e;unfold Dx;rw[Aq (by omega) (by omega)];exact H (u,i+1) ⟨e,by dsimp only;omega,by dsimp only;omega⟩ (by dsimp only;omega)
  unfold DV;dsimp only;rw[BH];split
  .rename_i X;have G:w64 (j-1)=j-1:=Aq (by omega) (by omega);obtain⟨Z,q1⟩:=Hq (l:=u) (i:=j) (by omega) (by omega);obtain⟨J,I⟩:=Hq (l:=u) (i:=j-1) (by omega) (by omega);obtain⟨c,O⟩:=g Z J;obtain⟨x3,Y⟩:=Hq (l:=List.set u j.toNat J) (i:=j-1) (by omega) (by rw[BZ];omega);simp only[G,q1,I,AB,O,AU];unfold DT;rw[BH];split
   .simp only[G,q1,I,Y,AB];exact h (_,j-1) ⟨by simp only[BZ];exact e,by dsimp only;omega,by dsimp only;omega⟩ (by dsimp only;omega)
   .rw[AU];exact out u e
  .rw[AU];unfold DT;rw[BO,AU];exact out u e
 .exact⟨v,rfl,E⟩
theorem AGR{α:Type}{cmp:α->α->AA Int}{l:List α}{a b n:Int}(G:0<=a)(H:0<=b)(I:a+n<=l.length)(J:b+n<=l.length)(O:l.length<1099511627776):Ln l.length (D5 cmp l a b n):=by
 unfold D5;refine Kk (fun x=>x.1.length=l.length/\0<=x.2) (fun x=>(n-x.2).toNat) (fun r:List α=>r.length=l.length) ?_ big (l,0) ⟨rfl,by dsimp only;omega⟩ (JD _ (by dsimp only;omega));rintro L ⟨v,i⟩ ⟨c,hi⟩ e;dsimp only at c hi e;unfold Ju;dsimp only;rw[BH];split
 .rename_i q;have g:w64 (a+i)=a+i:=Aq (by omega) (by omega);have h:w64 (b+i)=b+i:=Aq (by omega) (by omega);have j:w64 (i+1)=i+1:=Aq (by omega) (by omega);obtain⟨Q,q1⟩:=Hq (l:=v) (i:=a+i) (by omega) (by omega);obtain⟨E,y⟩:=Hq (l:=v) (i:=b+i) (by omega) (by omega);obtain⟨S,B⟩:=Hq (l:=List.set v (a+i).toNat E) (i:=b+i) (by omega) (by rw[BZ];omega);simp only[g,h,j,q1,y,B,AB];exact e (_,i+1) ⟨by simp only[BZ];exact c,by dsimp only;omega⟩ (by dsimp only;omega)
 .exact⟨v,rfl,c⟩
theorem Aa0{α:Type}{cmp:α->α->AA Int}{l:List α}{a m b:Int}(I:0<=a)(J:a<m)(O:m<b)(Q:b<=l.length)(S:l.length<1099511627776):Ln l.length (HG cmp l a m b):=by
 unfold HG;rw[Aq (n:=m-a) (by omega) (by omega),Aq (n:=b-m) (by omega) (by omega)];refine Kk (fun x=>x.1.length=l.length/\0<x.2.1/\x.2.1<=m-a/\0<x.2.2/\x.2.2<=b-m) (fun x=>(x.2.1+x.2.2).toNat) (fun r:List α=>r.length=l.length) ?_ big (l,m-a,b-m) ⟨rfl,by dsimp only;omega,by dsimp only;omega,by dsimp only;omega,by dsimp only;omega⟩ (JD _ (by dsimp only;omega));rintro L ⟨v,i,j⟩ ⟨h,hi,y,H,B⟩ E;dsimp only at h hi y H B E;unfold Lw;dsimp only;have q:w64 (m-i)=m-i:=Aq (by omega) (by omega);have G:w64 (w64 (m+j)-i)=m+j-i:=by rw[Aq (n:=m+j) (by omega) (by omega)];exact Aq (by omega) (by omega)
 by_cases e:i=j
 .subst e;rw[show (i != i)=false from by simp,BO,AU];unfold Lu;obtain⟨r,g,c⟩:=AGR (cmp:=cmp) (l:=v) (a:=m-i) (b:=m) (n:=i) (by omega) (by omega) (by omega) (by omega) (by omega);dsimp only;rw[q,g,AB];exact⟨r,rfl,c.trans h⟩
 .rw[show (i != j)=true from by simp[e],BL,BH];split
  .obtain⟨r,g,c⟩:=AGR (cmp:=cmp) (l:=v) (a:=m-i) (b:=m) (n:=j) (by omega) (by omega) (by omega) (by omega) (by omega);rw[q,g,AB,Aq (n:=i-j) (by omega) (by omega)];exact E (r,i-j,j) ⟨c.trans h,by dsimp only;omega,by dsimp only;omega,by dsimp only;omega,by dsimp only;omega⟩ (by dsimp only;omega)
  .obtain⟨r,g,c⟩:=AGR (cmp:=cmp) (l:=v) (a:=m-i) (b:=m+j-i) (n:=i) (by omega) (by omega) (by omega) (by omega) (by omega);rw[q,G,g,AB,Aq (n:=j-i) (by omega) (by omega)];exact E (r,i,j-i) ⟨c.trans h,by dsimp only;omega,by dsimp only;omega,by dsimp only;omega,by dsimp only;omega⟩ (by dsimp only;omega)
def vV{α:Type}(k:Nat)(r:List α->Int->Int->Int->AA (List α)):Prop:=
 ∀(l:List α) (a m b:Int),0<=a->a<m->m<b->b<=l.length->l.length<1099511627776->b-a<=2 ^ k->Ln l.length (r l a m b)
theorem ANb{α:Type}{cmp:α->α->AA Int}{k:Nat}{r:List α->Int->Int->Int->AA (List α)}(B:vV k r){l:List α}{a m b s:Int}(L:0<=a)(O:a<m)(Q:m<b)(S:b<=l.length)(Y:l.length<1099511627776)(X:b-a<=2 ^ (k+1))
 (G:a<=s) (H:s<=(a+b) / 2) (I:s<=m) (J:(a+b) / 2+m-b<=s):Ln l.length (HW cmp r l a m b s):=by
 have q:w64 (Dy (IntKind.u64.wrap (w64 (a+b))) 1)=(a+b) / 2:=V9 (by omega) (by omega);have y:w64 (w64 ((a+b) / 2+m)-s)=(a+b) / 2+m-s:=by rw[Aq (n:=(a+b) / 2+m) (by omega) (by omega)];exact Aq (by omega) (by omega)
 have E:(2:Int) ^ (k+1)=2*2 ^ k:=by rw[Int.pow_succ];omega
 have c:∀v:List α,v.length=l.length->Ln l.length (Fj cmp r a m b s v):=by
  intro v h;unfold Fj HZ;rw[q,y,BH];split
  .rw[AU,BH];split
   .obtain⟨x,j,e⟩:Ln v.length (r v ((a+b) / 2) ((a+b) / 2+m-s) b):=B v ((a+b) / 2) ((a+b) / 2+m-s) b (by omega) (by omega) (by omega) (by omega) (by omega) (by omega);rw[j,AB];exact⟨x,rfl,e.trans h⟩
   .exact⟨v,rfl,h⟩
  .rw[AU,BO];exact⟨v,rfl,h⟩
 have g:∀v:List α,v.length=l.length->Ln l.length (Fi cmp r a m b s v):=by
  intro v h;unfold Fi HY;rw[q,BH];split
  .rw[AU,BH];split
   .obtain⟨x,j,e⟩:Ln v.length (r v a s ((a+b) / 2)):=B v a s ((a+b) / 2) (by omega) (by omega) (by omega) (by omega) (by omega) (by omega);rw[j,AB,AU];exact c x (e.trans h)
   .rw[AU];exact c v h
  .rw[AU,BO,AU];exact c v h
 unfold HW HX;rw[q,y,BH];split
 .rw[AU,BH];split
  .obtain⟨x,j,e⟩:=Aa0 (cmp:=cmp) (l:=l) (a:=s) (m:=m) (b:=(a+b) / 2+m-s) (by omega) (by omega) (by omega) (by omega) (by omega);rw[j,AB,AU];exact g x e
  .rw[AU];exact g l rfl
 grind[AU,BO]
theorem AKU{α:Type}{cmp:α->α->AA Int}(g:∀x y,∃c,cmp x y=some c){k:Nat}{r:List α->Int->Int->Int->AA (List α)}(hr:vV k r):vV (k+1) (FI cmp r):=by
 intro l a m b h0 h1 h2 h3 hl hk;show Ln l.length (FI cmp r l a m b);have e0:w64 (Dy (IntKind.u64.wrap (w64 (a+b))) 1)=(a+b) / 2:=V9 (by omega) (by omega);unfold FI;rw[Aq (n:=m-a) (by omega) (by omega)];by_cases c1:m-a=1
 .rw[show (m-a==1)=true from by simp[c1],BL];refine Kk (fun x=>m<=x.1/\x.1<=x.2/\x.2<=b) (fun x=>(x.2-x.1).toNat) (fun r:List α=>r.length=l.length) ?_ big (m,b) ⟨by dsimp only;omega,by dsimp only;omega,by dsimp only;omega⟩ (JD _ (by dsimp only;omega));rintro L ⟨i,j⟩ ⟨hi,H,X⟩ h;dsimp only at hi H X h;unfold KM;dsimp only;rw[BH];split
  .have eh:w64 (Dy (IntKind.u64.wrap (w64 (i+j))) 1)=(i+j) / 2:=V9 (by omega) (by omega);have e:w64 ((i+j) / 2+1)=(i+j) / 2+1:=Aq (by omega) (by omega);obtain⟨G,q1⟩:=Hq (l:=l) (i:=(i+j) / 2) (by omega) (by omega);obtain⟨J,E⟩:=Hq (l:=l) (i:=a) (by omega) (by omega);obtain⟨c,O⟩:=g G J;simp only[eh,e,q1,E,AB,O];rw[BH];split
   .exact h ((i+j) / 2+1,j) ⟨by dsimp only;omega,by dsimp only;omega,by dsimp only;omega⟩ (by dsimp only;omega)
   .exact h (i,(i+j) / 2) ⟨by dsimp only;omega,by dsimp only;omega,by dsimp only;omega⟩ (by dsimp only;omega)
  .rw[AU];unfold KI;refine Kk (fun x=>x.1.length=l.length/\a<=x.2) (fun x=>(i-1-x.2).toNat) (fun r:List α=>r.length=l.length) ?_ big (l,a) ⟨rfl,by dsimp only;omega⟩ (JD _ (by dsimp only;omega));rintro L' ⟨u,q⟩ ⟨I,Y⟩ B;dsimp only at I Y B;unfold KN GC;dsimp only;rw[Aq (n:=i-1) (by omega) (by omega),BH];split
   .have Q:w64 (q+1)=q+1:=Aq (by omega) (by omega);obtain⟨G,q1⟩:=Hq (l:=u) (i:=q+1) (by omega) (by omega);obtain⟨J,E⟩:=Hq (l:=u) (i:=q) (by omega) (by omega);obtain⟨x3,q3⟩:=Hq (l:=List.set u q.toNat G) (i:=q+1) (by omega) (by rw[BZ];omega);simp only[Q,q1,E,q3,AB];exact B (_,q+1) ⟨by simp only[BZ];exact I,by dsimp only;omega⟩ (by dsimp only;omega)
   .rw[AU];exact⟨u,rfl,I⟩
 .rw[show (m-a==1)=false from by simp[c1],BO,AU];unfold KJ;rw[Aq (n:=b-m) (by omega) (by omega)];by_cases c2:b-m=1
  .rw[show (b-m==1)=true from by simp[c2],BL];refine Kk (fun x=>a<=x.1/\x.1<=x.2/\x.2<=m) (fun x=>(x.2-x.1).toNat) (fun r:List α=>r.length=l.length) ?_ big (a,m) ⟨by dsimp only;omega,by dsimp only;omega,by dsimp only;omega⟩ (JD _ (by dsimp only;omega));rintro L ⟨i,j⟩ ⟨hi,H,X⟩ h;dsimp only at hi H X h;unfold KO;dsimp only;rw[BH];split
   .have eh:w64 (Dy (IntKind.u64.wrap (w64 (i+j))) 1)=(i+j) / 2:=V9 (by omega) (by omega);have e:w64 ((i+j) / 2+1)=(i+j) / 2+1:=Aq (by omega) (by omega);obtain⟨G,q1⟩:=Hq (l:=l) (i:=(i+j) / 2) (by omega) (by omega);obtain⟨J,E⟩:=Hq (l:=l) (i:=m) (by omega) (by omega);obtain⟨c,O⟩:=g J G;simp only[eh,e,q1,E,AB,O];cases S:decide (c<0)
    .rw[show (!false)=true from rfl,BL];exact h ((i+j) / 2+1,j) ⟨by dsimp only;omega,by dsimp only;omega,by dsimp only;omega⟩ (by dsimp only;omega)
    .rw[show (!true)=false from rfl,BO];exact h (i,(i+j) / 2) ⟨by dsimp only;omega,by dsimp only;omega,by dsimp only;omega⟩ (by dsimp only;omega)
   .rw[AU];unfold KK;refine Kk (fun x=>x.1.length=l.length/\x.2<=m/\i<=x.2) (fun x=>(x.2-i).toNat) (fun r:List α=>r.length=l.length) ?_ big (l,m) ⟨rfl,by dsimp only;omega,by dsimp only;omega⟩ (JD _ (by dsimp only;omega));rintro L' ⟨u,q⟩ ⟨I,Y,Z⟩ B;dsimp only at I Y Z B;unfold KP GC;dsimp only;rw[BH];split
    .have Q:w64 (q-1)=q-1:=Aq (by omega) (by omega);obtain⟨G,q1⟩:=Hq (l:=u) (i:=q-1) (by omega) (by omega);obtain⟨J,E⟩:=Hq (l:=u) (i:=q) (by omega) (by omega);obtain⟨x3,q3⟩:=Hq (l:=List.set u q.toNat G) (i:=q-1) (by omega) (by rw[BZ];omega);simp only[Q,q1,E,q3,AB];exact B (_,q-1) ⟨by simp only[BZ];exact I,by dsimp only;omega,by dsimp only;omega⟩ (by dsimp only;omega)
    .rw[AU];exact⟨u,rfl,I⟩
  .rw[show (b-m==1)=false from by simp[c2],BO,AU];have key:∀s t:Int,a<=s->s<=t->t<=(a+b) / 2->t<=m->(a+b) / 2+m-b<=s->Ln l.length (Fh cmp r l a m b (s,t)):=by
    intro s t p1 p2 p3 p4 p5;unfold Fh;refine Kk (fun x=>a<=x.1/\x.1<=x.2/\x.2<=(a+b) / 2/\x.2<=m/\(a+b) / 2+m-b<=x.1) (fun x=>(x.2-x.1).toNat) (fun r:List α=>r.length=l.length) ?_ big (s,t) ⟨p1,p2,p3,p4,p5⟩ (JD _ (by dsimp only;omega));rintro L ⟨i,j⟩ ⟨g1,g2,g3,g4,g5⟩ h;dsimp only at g1 g2 g3 g4 g5 h;unfold Jv;dsimp only;rw[BH];split
    .have eh:w64 (Dy (IntKind.u64.wrap (w64 (i+j))) 1)=(i+j) / 2:=V9 (by omega) (by omega);have e:w64 ((i+j) / 2+1)=(i+j) / 2+1:=Aq (by omega) (by omega);have ep:w64 (w64 (w64 ((a+b) / 2+m)-1)-(i+j) / 2)=(a+b) / 2+m-1-(i+j) / 2:=by
      rw[Aq (n:=(a+b) / 2+m) (by omega) (by omega),Aq (n:=(a+b) / 2+m-1) (by omega) (by omega)];exact Aq (by omega) (by omega)
     obtain⟨G,q1⟩:=Hq (l:=l) (i:=(i+j) / 2) (by omega) (by omega);obtain⟨J,E⟩:=Hq (l:=l) (i:=(a+b) / 2+m-1-(i+j) / 2) (by omega) (by omega);obtain⟨c,O⟩:=g J G;simp only[e0,eh,e,ep,q1,E,AB,O];cases S:decide (c<0)
     .rw[show (!false)=true from rfl,BL];exact h ((i+j) / 2+1,j) ⟨by dsimp only;omega,by dsimp only;omega,by dsimp only;omega,by dsimp only;omega,by dsimp only;omega⟩ (by dsimp only;omega)
     .rw[show (!true)=false from rfl,BO];exact h (i,(i+j) / 2) ⟨by dsimp only;omega,by dsimp only;omega,by dsimp only;omega,by dsimp only;omega,by dsimp only;omega⟩ (by dsimp only;omega)
    .rw[AU];exact ANb hr h0 h1 h2 h3 hl hk g1 (by omega) (by omega) g5
   unfold KL;rw[e0,BH];split
   .rw[AU,Aq (n:=(a+b) / 2+m) (by omega) (by omega),Aq (n:=(a+b) / 2+m-b) (by omega) (by omega)];exact key _ _ (by omega) (by omega) (by omega) (by omega) (by omega)
   .rw[AU];exact key _ _ (by omega) (by omega) (by omega) (by omega) (by omega)
theorem ACs{α:Type}{cmp:α->α->AA Int}(g:∀x y,∃c,cmp x y=some c){mrg:List α->Int->Int->Int->AA (List α)}(Q:∀(l:List α) (a m b:Int),0<=a->a<m->m<b->b<=l.length->l.length<=40->Ln l.length (mrg l a m b)){l:List α}(Y:l.length<=40):Ln l.length (Fs cmp mrg l (l.length:Int)):=by
 unfold Fs;have O:∀v:List α,v.length=l.length->Ln l.length (A3 (FX cmp mrg (l.length:Int)) big (v,20)):=by
  intro v X;refine Kk (fun x=>x.1.length=l.length/\(x.2=20\/x.2=40)) (fun x=>(40-x.2).toNat) (fun r:List α=>r.length=l.length) ?_ big (v,20) ⟨X,.inl rfl⟩ (JD _ (by dsimp only;omega));rintro L ⟨u,s⟩ ⟨j,S⟩ G;dsimp only at j S G;unfold FX;dsimp only;rw[BH];split
  .have E:s=20:=by omega
   subst E;have out:∀w:List α,w.length=l.length->Ln l.length (HA cmp mrg L 20 w):=by
    intro w B;unfold HA;rw[Aq (by omega) (by omega)];exact G (w,20*2) ⟨B,.inr rfl⟩ (by dsimp only;omega)
   rw[Aq (n:=2*20) (by omega) (by omega)];refine Kk (fun x=>x.1.length=l.length/\x.2.2=x.2.1+40/\(x.2.1=0\/x.2.1=40)) (fun x=>(40-x.2.1).toNat) (fun r:List α=>r.length=l.length) ?_ big (u,0,2*20) ⟨j,by dsimp only;omega,.inl rfl⟩ (JD _ (by dsimp only;omega));rintro L' ⟨w,a,b⟩ ⟨B,h,I⟩ H;dsimp only at B h I H;unfold Ly;dsimp only;rw[BH];split
   .obtain⟨x,q,e⟩:=Q w a (a+20) b (by omega) (by omega) (by omega) (by omega) (by omega);rw[Aq (n:=a+20) (by omega) (by omega),q,AB,Aq (n:=2*20) (by omega) (by omega),Aq (n:=b+2*20) (by omega) (by omega)];exact H (x,b,b+2*20) ⟨e.trans B,by dsimp only;omega,by dsimp only;omega⟩ (by dsimp only;omega)
   .rw[AU];unfold Lx;dsimp only;rw[Aq (n:=a+20) (by omega) (by omega),BH];split
    .obtain⟨x,q,e⟩:=Q w a (a+20) (l.length:Int) (by omega) (by omega) (by omega) (by omega) (by omega);rw[q,AB,AU];exact out x (e.trans B)
    .rw[AU];exact out w B
  .exact⟨u,rfl,j⟩
 have key:Ln l.length (A3 (FW cmp mrg (l.length:Int)) big (l,0,20)):=by
  refine Kk (fun x=>x.1.length=l.length/\0<=x.2.1/\x.2.1<=(l.length:Int)/\x.2.2=x.2.1+20) (fun x=>(60-x.2.1).toNat) (fun r:List α=>r.length=l.length) ?_ big (l,0,20) ⟨rfl,by dsimp only;omega,by dsimp only;omega,by dsimp only;omega⟩ (JD _ (by dsimp only;omega));rintro L ⟨u,a,b⟩ ⟨j,I,J,h⟩ G;dsimp only at j I J h G;unfold FW;dsimp only;rw[BH];split
  .obtain⟨x,q,e⟩:=AYW g (l:=u) (a:=a) (b:=b) (by omega) (by omega) (by omega) (by omega);rw[q,AB,Aq (n:=b+20) (by omega) (by omega)];exact G (x,b,b+20) ⟨e.trans j,by dsimp only;omega,by dsimp only;omega,rfl⟩ (by dsimp only;omega)
  .rw[AU];unfold G9;dsimp only;obtain⟨x,q,e⟩:=AYW g (l:=u) (a:=a) (b:=(l.length:Int)) (by omega) (by omega) (by omega) (by omega);rw[q,AB];exact O x (e.trans j)
 exact key
theorem pY:∀k,vV (α:=Ad) k (fun l a m b=>(Zl k).d (l,a,m,b,(),()))
 |0=>by
  intro l a m b c e g j B q
  grind
 |k+1=>AKU (fun x y=>(Oj x y).imp fun _ h=>h.1) (pY k)
theorem ABu{l:List Ad}{a m b:Int}(c:0<=a)(e:a<m)(g:m<b)(h:b<=l.length)(j:l.length<=40):Ln l.length (AOS l a m b):=
 pY 7 l a m b c e g h (by omega) (by have:(2:Int) ^ 7=128:=rfl;omega)
theorem lC{l:List Ad}(c:l.length<=40):Ln l.length (mr l):=by
 unfold mr AHP;obtain⟨x,e,a⟩:=ACs (fun x y=>(Oj x y).imp fun _ h=>h.1) (mrg:=AOS) (fun _ _ _ _=>ABu) c;rw[e,AB];exact⟨x,rfl,a⟩
theorem AKT:∀k,vV (α:=A7) k (fun l a m b=>(Zk k).d (l,a,m,b,(),()))
 |0=>by
  intro l a m b c e g j B q
  grind
 |k+1=>AKU (fun x y=>(MX x y).imp fun _ h=>h.1) (AKT k)
theorem ALW{l:List A7}{a m b:Int}(c:0<=a)(e:a<m)(g:m<b)(h:b<=l.length)(j:l.length<=40):Ln l.length (AOO l a m b):=
 AKT 7 l a m b c e g h (by omega) (by have:(2:Int) ^ 7=128:=rfl;omega)
theorem vB{l:List A7}(c:l.length<=40):Ln l.length (mw l):=by
 unfold mw AHK;obtain⟨x,e,a⟩:=ACs (fun x y=>(MX x y).imp fun _ h=>h.1) (mrg:=AOO) (fun _ _ _ _=>ALW) c;rw[e,AB];exact⟨x,rfl,a⟩
end Lv.P
