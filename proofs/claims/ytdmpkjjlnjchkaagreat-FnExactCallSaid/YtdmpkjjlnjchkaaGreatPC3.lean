/- Plain laws about what the program computes. -/
import Derived.Test.YtdmpkjjlnjchkaaGreatPA3
set_option linter.unusedVariables false
set_option linter.unusedSimpArgs false
set_option linter.unusedSectionVars false
open Int renaming eq_ofNat_of_zero_le->Ab,tdiv_eq_ediv_of_nonneg->G8,tmod_eq_emod_of_nonneg->D4
open List renaming drop_eq_getElem_cons->HI,drop_eq_nil_of_le->BM,drop_zero->C3,getElem?_eq_getElem->AW,getElem?_eq_none->DV,length_append->AM,length_cons->AH,length_nil->AN
open Nat renaming xor_lt_two_pow->Dr,zero_add->Av
namespace Lv.P
open Go (IntKind BinOp UnOp)
@[simp] theorem pB(a b c:Int):Ee a b c=some (decide (b<=a/\a<=c)):=by
 grind[Ee,oY,BA,AR]
@[simp] theorem Up(a b c:Int):DE a b c=some (decide (b<=a/\a<=c)):=by
 grind[DE,eT,BA,AR]
def FU(n:Nat):List UInt8:=if n<128 then [UInt8.ofNat n] else UInt8.ofNat (n % 128+128)::FU (n / 128)
decreasing_by omega
def pN(n:Int):List UInt8:=if 0<=n/\n<=2147483647 then FU n.toNat else []
theorem Rf{n:Nat}(h:n<128):FU n=[UInt8.ofNat n]:=by rw[FU,if_pos h]
theorem ar{n:Nat}(h:128<=n):FU n=UInt8.ofNat (n % 128+128)::FU (n / 128):=by rw[FU,if_neg (by omega)]
theorem Ip(n:Nat):0<(FU n).length:=by rw[FU];split<;>simp
theorem nq:∀(k n:Nat),n<128 ^ (k+1)->(FU n).length<=k+1
 |0,n,h=>by rw[Rf (by simpa using h)];simp|k+1,n,h=>by
  rcases Nat.lt_or_ge n 128 with a|a
  .rw[Rf a];simp
  .rw[ar a];have:=nq k (n / 128) (by rw[Nat.div_lt_iff_lt_mul (by omega)];rw[Nat.pow_succ]at h;exact h);simp only[AH];omega
theorem LM{n:Nat}(h:n<=2147483647):(FU n).length<=5:=nq 4 n (by omega)
theorem TI(n:Int):(pN n).length<=5:=by unfold pN;split
                                       .exact LM (by omega)
                                       .simp
theorem AT4{F:(Int×List UInt8->AA (List UInt8))->Int×List UInt8->AA (List UInt8)}
 (hF:∀L n acc,F L (n,acc)=if n<128 then gd (acc.length+1<=lim) (some (acc++[toB n])) else gd (acc.length+1<=lim) (L (w64 (Int.tdiv n 128),acc++[toB (w64 (Int.tmod n 128+128))])))
 {n:Nat} (q:n<=2147483647):A4 F big ((n:Int),[])=some (FU n):=by
 have:=mJ (F:=F) (x:=((n:Int),[])) (fun x=>some (x.2++FU x.1.toNat)) (fun x=>0<=x.1/\x.1<=2147483647/\x.2.length+(FU x.1.toNat).length<=5) (fun x=>x.1.toNat) ?_ ?_ ?_
 .simpa using this
 .rintro L ⟨m,acc⟩ ⟨a,j,c⟩ hL;dsimp only at a j c hL ⊢;obtain⟨m,rfl⟩:=Ab a;rw[hF];simp only[Int.toNat_natCast]at c hL ⊢;have hlim:acc.length+1<=lim:=by have:=Ip m;unfold lim;omega
  by_cases h:m<128
  .rw[if_pos (by omega),B9 hlim,Rf h,AUP (by omega)]
  .have e:Int.tdiv (m:Int) 128=((m / 128:Nat):Int):=by
    rw[G8 (by omega)];rfl
   have g:Int.tmod (m:Int) 128+128=((m % 128+128:Nat):Int):=by
    rw[D4 (by omega)];omega
   have y:=ar (n:=m) (by omega);rw[if_neg (by omega),B9 hlim,e,g,Ai (by omega) (by omega),Ai (by omega) (by omega),AUP (by omega)]
   grind
 .refine⟨by dsimp only;omega,by dsimp only;omega,?_⟩;have:=LM q;simpa using this
 .dsimp only;omega
@[simp] theorem Z8(n:Int):AQf n=some (pN n):=by
 unfold AQf pN;simp only[pB,AB,BI,BA];split
 .rename_i h;obtain⟨m,rfl⟩:=Ab h.1;refine AT4 (fun L n acc=>?_) (by omega);unfold A4b A4a;simp only[BA,AR,AH,AN,Av];by_cases h:n>127
  .grind
  .rw[if_neg h,if_pos (by omega)]
 .rfl
@[simp] theorem LJ(n:Int):rr n=some (pN n):=by
 unfold rr pN;simp only[Up,AB,BI,BA];split
 .rename_i h;obtain⟨m,rfl⟩:=Ab h.1;refine AT4 (fun L n acc=>?_) (by omega);unfold AIL AIK;simp only[BA,AR,AH,AN,Av];by_cases h:n>=128
  .grind
  .rw[if_neg h,if_pos (by omega)]
 .rfl
def rdN:Nat->Nat->Nat->List UInt8->AA (Nat×Nat)
 |0,_,_,_=>none|_+1,_,_,[]=>none|f+1,k,a,d::l=>
  if d.toNat<128 then (if (0<k/\d.toNat=0)\/2147483647<a+(d.toNat % 128)*2 ^ (7*k) then none else some (a+(d.toNat % 128)*2 ^ (7*k),k+1))
  else rdN f (k+1) (a+(d.toNat % 128)*2 ^ (7*k)) l
theorem UN{n:Nat}(h:n<2 ^ 63):(BitVec.ofInt IntKind.i64.bits (n:Int)).toNat=n:=by
 simp only[IntKind.bits,BitVec.toNat_ofInt];omega
def rdL:Nat->List UInt8->AA (List Int)
 |0,_=>none|f+1,[]=>some []|f+1,l=>match rdN 5 0 0 l with|some (n,m)=>(rdL f (l.drop m)).map ((n:Int)::·)|none=>none
def pL(l:List Int):List UInt8:=l.flatMap pN
theorem yq{l:List Int}(h:l.length<=10000000){G:Int->AA (List UInt8)}(hG:∀n,G n=some (pN n))
 {F:(List UInt8×Int->AA (List UInt8))->List UInt8×Int->AA (List UInt8)}
 (hF:∀L acc i,F L (acc,i)=if i<(l.length:Int) then bd (at? l i) fun x=>bd (G x) fun y=>gd (acc.length+y.length<=lim) (L (acc++y,w64 (i+1))) else some acc) :
 ∀(f i n:Nat) (acc:List UInt8),l.length<f+i->f<=n->acc.length<=5*i->i<=l.length->A4 F n (acc,(i:Int))=some (acc++pL (l.drop i))
 |0,i,n,acc,a,c,e,g=>by omega|f+1,i,n,acc,a,c,e,g=>by
  obtain⟨n,rfl⟩:∃m,n=m+1:=⟨n-1,by omega⟩;rw[EV,hF];by_cases hi:i<l.length
  .rw[if_pos (by omega),Fu,AW hi,AB,hG,AB];have:=TI l[i];rw[B9 (by unfold lim;omega),Ai (by omega) (by omega)];have:=yq h hG hF f (i+1) n (acc++pN l[i]) (by omega) (by omega) (by rw[AM];omega) hi;refine Eq.trans this ?_;rw[HI hi];simp only[pL,List.flatMap_cons,List.append_assoc]
  .rw[if_neg (by omega),BM (by omega)];simp[pL]
theorem jj{l:List Int}(a:l.length<=10000000):AQg l=some (pL l):=by
 unfold AQg;have:=yq a (G:=AQf) (F:=AjZ l) Z8 (fun L acc i=>by unfold AjZ Aig;simp only[BA,AR]) (l.length+1) 0 big [] (by omega) (by have:=Wt;omega) (by simp) (by omega);simpa using this
theorem iq{l:List Int}(a:l.length<=10000000):nF l=some (pL l):=by
 unfold nF;have:=yq a (G:=rr) (F:=rz l) LJ (fun L acc i=>by unfold rz AIM;simp only[BA,AR]) (l.length+1) 0 big [] (by omega) (by have:=Wt;omega) (by simp) (by omega);simpa using this
def fld(n:Int):Bool:=decide (0<=n/\n<=9999)
def Hm(q:BX):Bool:=
 if q.Kind=1 then fld q.Id&&fld q.Aa&&decide (-1<=q.Bl/\q.Bl<=9999)&&fld q.A2&&fld q.Cj
 else if q.Kind=2\/q.Kind=4\/q.Kind=5\/q.Kind=7 then fld q.Id&&(q.Aa==0&&(q.Bl==0&&(q.A2==0&&q.Cj==0)))
 else if q.Kind=3 then fld q.Aa&&fld q.A2&&(q.Id==0&&(q.Bl==0&&q.Cj==0))
 else if q.Kind=6 then q.Id==0&&(q.Aa==0&&(q.Bl==0&&(q.A2==0&&q.Cj==0)))
 else false
def E0(q:BX):List Int:=
 if q.Kind=1 then [q.Kind,q.Id,q.Aa,q.Bl+1,q.A2,q.Cj]
 else if q.Kind=3 then [q.Kind,q.Aa,q.A2]
 else if q.Kind=6 then [q.Kind]
 else [q.Kind,q.Id]
def F5(q:BX):List UInt8:=if Hm q then pL (E0 q) else []
@[simp] theorem APf(n:Int):WV n=some (fld n):=by unfold WV fld;simp
@[simp] theorem AOe(n:Int):WY n=some (fld n):=by unfold WY fld;simp
theorem APe(q:BX):eS q=some (Hm q):=by
 obtain⟨k,a,b,c,d,e⟩:=q;unfold eS HJ Ta HJ Hm;simp only[BZ,AR,APf,AB,pB,beq_iff_eq]
 grind
theorem AOd(q:BX):fP q=some (Hm q):=by
 obtain⟨k,a,b,c,d,e⟩:=q;unfold fP HK Tl HK Hm;simp only[BZ,AR,AOe,AB,Up,beq_iff_eq]
 grind
theorem cA{q:BX}:AQx q=some (F5 q):=by
 unfold AQx F5;rw[APe,AB,BI,BZ]
 grind[Hm,E0,BZ,Ai,jj,AB]
theorem bh{q:BX}:ARE q=some (F5 q):=by
 grind[ARE,Ait,F5,AOd,AB,BZ,Hm,E0,AR,B9,lim,Ai,iq]
noncomputable def Qz(s:List UInt8):BX×Bool:=open Classical in if h:∃q,Hm q=true/\F5 q=s then (h.choose,true) else (⟨0,0,0,0,0,0⟩,false)
@[simp] theorem Afu(q:BX):AAz q q=some true:=by
 unfold AAz;simp[BZ]
def kH(v:Nat):Nat:=if v % 2=1 then (v / 2) ^^^ 3988292384 else v / 2
def eO:Nat->Nat->Nat|0,v=>v|k+1,v=>eO k (kH v)
def aJ:Nat->List UInt8->Nat|v,[]=>v|v,x::l=>aJ (eO 8 (v ^^^ x.toNat)) l
def LI(s:List UInt8):Nat:=aJ 4294967295 s ^^^ 4294967295
theorem AAg{v:Nat}(h:v<2 ^ 32):kH v<2 ^ 32:=by
 unfold kH;split
 .exact Dr (by omega) (by omega)
 .omega
theorem cO:∀k {v:Nat},v<2 ^ 32->eO k v<2 ^ 32|0,_,h=>h|k+1,_,h=>cO k (AAg h)
theorem cP:∀(l:List UInt8) {v:Nat},v<2 ^ 32->aJ v l<2 ^ 32| [],_,h=>h|x::l,v,h=>cP l (cO 8 (Dr h (by have:=x.toNat_lt;omega)))
theorem Uq{a b:Nat}(c:a<2 ^ 63)(e:b<2 ^ 63):bN (a:Int) (b:Int)=((a ^^^ b:Nat):Int):=by
 unfold bN;rw[BitVec.toNat_xor,UN c,UN e];have:a ^^^ b<2 ^ 63:=Dr c e;rw[bE (by omega) (by omega)]
theorem AXp{a b:Nat}(c:a<2 ^ 63)(e:b<2 ^ 63):pP (a:Int) (b:Int)=((a &&& b:Nat):Int):=by
 grind[UN,Nat.and_le_left,bE]
theorem AhL(a:Nat):Dx (a:Int) 1=((a / 2:Nat):Int):=by
 grind[IntKind.bits]
theorem pg{γ:Type}{F:(Int×Int->AA γ)->Int×Int->AA γ}{G:Int->AA γ}
 (hF:∀L (v k:Nat),v<2 ^ 32->k<=8->F L ((v:Int),(k:Int))=if k<8 then L (((kH v:Nat):Int),((k+1:Nat):Int)) else G (v:Int)) :
 ∀(m k v n:Nat),k+m=8->m<n->v<2 ^ 32->A4 F n ((v:Int),(k:Int))=G ((eO m v:Nat):Int)
 |0,k,v,0,_,h,_=>by omega|0,k,v,n+1,c,_,a=>by rw[EV,hF _ _ _ a (by omega),if_neg (by omega)];rfl|m+1,k,v,0,_,h,_=>by omega|m+1,k,v,n+1,c,h,a=>by
  rw[EV,hF _ _ _ a (by omega),if_pos (by omega),pg hF m (k+1) _ n (by omega) (by omega) (AAg a)];rfl
theorem pf{s:List UInt8}{γ:Type}{F:(Int×Int->AA γ)->Int×Int->AA γ}{G:Int->AA γ}(e:s.length<2 ^ 62)
 (hF:∀L (v i:Nat),v<2 ^ 32->i<=s.length->F L ((v:Int),(i:Int))=match s[i]? with|none=>G (v:Int)|some x=>L (((eO 8 (v ^^^ x.toNat):Nat):Int),((i+1:Nat):Int))) :
 ∀(m i v n:Nat),i+m=s.length->m<n->v<2 ^ 32->A4 F n ((v:Int),(i:Int))=G ((aJ v (s.drop i):Nat):Int)
 |0,i,v,0,_,h,_=>by omega|0,i,v,n+1,hi,_,c=>by
  rw[EV,hF _ _ _ c (by omega),DV (by omega),BM (by omega)];rfl
 |m+1,i,v,0,_,h,_=>by omega|m+1,i,v,n+1,hi,h,c=>by
  have a:i<s.length:=by omega
  rw[EV,hF _ _ _ c (by omega),AW a];dsimp only;rw[pf e hF m (i+1) _ n (by omega) (by omega) (cO 8 (Dr c (by have:=s[i].toNat_lt;omega))),HI a];rfl
theorem AMo{s:List UInt8}(B:s.length<2 ^ 62):AQh s=some ((LI s:Nat):Int):=by
 unfold AQh;have:=pf (F:=Al0 s) (G:=fun v=>some (bN v 4294967295)) B ?_ s.length 0 4294967295 big (by omega) (JG _ (by omega)) (by omega)
 .refine Eq.trans this ?_;have e:=Uq (a:=aJ 4294967295 s) (b:=4294967295) (by have:=cP s (v:=4294967295) (by omega);omega) (by omega);show some (bN _ ((4294967295:Nat):Int))=_;rw[C3,e];rfl
 .intro L v i j hi;unfold Al0 A4d;simp only[BA,AR,Fu];by_cases h:i<s.length
  .rw[if_pos (by omega),AW h,AB];dsimp only;have H:=s[i].toNat_lt;rw[Ai (by omega) (by omega),Uq (by omega) (by omega)];have:=pg (F:=A28 L (i:Int)) (G:=fun v=>L (v,((i+1:Nat):Int))) ?_ 8 0 (v ^^^ s[i].toNat) big (by omega) (JG _ (by omega)) (Dr j (by omega))
   .exact this
   .intro L5 v k j E;unfold A28 A27 A4c;simp only[BA,AR];by_cases g:k<8
    .rw[if_pos (by omega),if_pos g];have q:Int.tmod (v:Int) 2=((v % 2:Nat):Int):=by rw[D4 (by omega)];omega
     have y:Int.tdiv (v:Int) 2=((v / 2:Nat):Int):=by rw[G8 (by omega)];omega
     rw[q,y,Ai (by omega) (by omega),Ai (n:=(k:Int)+1) (by omega) (by omega),BZ,show (3988292384:Int)=((3988292384:Nat):Int) from rfl,Uq (by omega) (by omega)];unfold kH;by_cases c:v % 2=1
     .rw[if_pos (by rw[c];rfl),if_pos c];rfl
     .rw[if_neg (by rw[beq_iff_eq];omega),if_neg c];rfl
    .rw[if_neg (by omega),if_neg g,Ai (by omega) (by omega)];rfl
  .rw[if_neg (by omega),DV (by omega)]
theorem ALh{s:List UInt8}(y:s.length<2 ^ 62):AIN s=some ((LI s:Nat):Int):=by
 unfold AIN;have:=pf (F:=sB s) (G:=fun v=>some (bN v 4294967295)) y ?_ s.length 0 4294967295 big (by omega) (JG _ (by omega)) (by omega)
 .refine Eq.trans this ?_;have e:=Uq (a:=aJ 4294967295 s) (b:=4294967295) (by have:=cP s (v:=4294967295) (by omega);omega) (by omega);show some (bN _ ((4294967295:Nat):Int))=_;rw[C3,e];rfl
 .intro L v i j hi;unfold sB AIP;simp only[BA,AR,Fu];by_cases h:i<s.length
  .rw[if_pos (by omega),AW h,AB];dsimp only;have E:=s[i].toNat_lt;rw[Ai (by omega) (by omega),Uq (by omega) (by omega)];have:=pg (F:=sC L (i:Int)) (G:=fun v=>L (v,((i+1:Nat):Int))) ?_ 8 0 (v ^^^ s[i].toNat) big (by omega) (JG _ (by omega)) (Dr j (by omega))
   .exact this
   .intro L5 v k j B;unfold sC sA AIO;simp only[BA,AR];by_cases g:k<8
    .rw[if_pos (by omega),if_pos g];have q:pP (v:Int) 1=((v % 2:Nat):Int):=by
      rw[show (1:Int)=((1:Nat):Int) from rfl,AXp (by omega) (by omega),Nat.and_one_is_mod]
     rw[q,AhL,Ai (n:=(k:Int)+1) (by omega) (by omega),BZ,show (3988292384:Int)=((3988292384:Nat):Int) from rfl,Uq (by omega) (by omega)];unfold kH;by_cases c:v % 2=1
     .rw[if_pos (by rw[c];rfl),if_pos c];rfl
     .rw[if_neg (by rw[beq_iff_eq];omega),if_neg c];rfl
    .rw[if_neg (by omega),if_neg g,Ai (by omega) (by omega)];rfl
  .rw[if_neg (by omega),DV (by omega)]
def four(c:Int):List UInt8:=[toB (Dx c 24),toB (Dx c 16),toB (Dx c 8),toB c]
theorem HM(c:Int):(four c).length=4:=rfl
def T5(q:Int)(b:List UInt8):Prop:=(1<=q/\q<=1000000)/\(1<=b.length/\b.length<=60)
instance (q:Int) (b:List UInt8):Decidable (T5 q b):=by unfold T5;infer_instance
def frT(q:Int)(b:List UInt8):List UInt8:=four ((LI (pN q++b):Nat):Int)++(pN q++b)
def frB(q:Int)(b:List UInt8):List UInt8:=if T5 q b then pN ((frT q b).length:Int)++frT q b else []
theorem RU{q:Int}{b:List UInt8}(h:T5 q b):6<=(frT q b).length/\(frT q b).length<=69:=by
 have a:=TI q;have c:0<(pN q).length:=by unfold pN;rw[if_pos (by have:=h.1;omega)];exact Ip _
 have:=h.2;simp only[frT,AM,HM];omega
theorem iX{q:Int}{b:List UInt8}(h:T5 q b):7<=(frB q b).length/\(frB q b).length<=74:=by
 have:=RU h;have a:=TI ((frT q b).length:Int);have c:0<(pN ((frT q b).length:Int)).length:=by unfold pN;rw[if_pos (by omega)];exact Ip _
 unfold frB;rw[if_pos h,AM];omega
theorem PN(q:Int)(b:List UInt8):AQy q b=some (frB q b):=by
 unfold AQy A3C;simp only[pB,AB,AR,BI,BH];by_cases c:1<=q/\q<=1000000
 .rw[decide_eq_true c,BH];by_cases g:(1:Int)<=b.length/\(b.length:Int)<=60
  .have a:T5 q b:=⟨c,by omega⟩;have j:=TI q;rw[decide_eq_true g,BH,Z8,AB,B9 (by unfold On;omega),AMo (by rw[AM];omega),AB];unfold AII;rw[AB,B9 (by simp only[AM,AH,AN];unfold On;omega),Z8,AB];have e:[toB (Dx ((LI (pN q++b):Nat):Int) 24),toB (Dx ((LI (pN q++b):Nat):Int) 16),toB (Dx ((LI (pN q++b):Nat):Int) 8),toB ((LI (pN q++b):Nat):Int)]++(pN q++b)=frT q b:=rfl;rw[e];have:=TI ((frT q b).length:Int);have:=RU a;rw[B9 (by unfold On;omega)];unfold frB;rw[if_pos a]
  .rw[decide_eq_false g,BN];unfold frB;rw[if_neg (fun h=>g ⟨by have:=h.2;omega,by have:=h.2;omega⟩)]
 .rw[decide_eq_false c,BN];unfold frB;rw[if_neg (fun h=>c h.1)]
theorem Vi(q:Int)(b:List UInt8):ARF q b=some (frB q b):=by
 unfold ARF Aq2;simp only[Up,AB,AR,BI,BH];by_cases c:1<=q/\q<=1000000
 .rw[decide_eq_true c,BH];by_cases g:(1:Int)<=b.length/\(b.length:Int)<=60
  .have a:T5 q b:=⟨c,by omega⟩;have j:=TI q;rw[decide_eq_true g,BH,LJ,AB,B9 (by unfold lim;omega),ALh (by rw[AM];omega),AB];rw[B9 (by simp only[AM,AH,AN];unfold lim;omega),LJ,AB];have e:[toB (Dx ((LI (pN q++b):Nat):Int) 24),toB (Dx ((LI (pN q++b):Nat):Int) 16),toB (Dx ((LI (pN q++b):Nat):Int) 8),toB ((LI (pN q++b):Nat):Int)]++(pN q++b)=frT q b:=rfl;rw[e];have:=TI ((frT q b).length:Int);have:=RU a;rw[B9 (by unfold On;omega)];unfold frB;rw[if_pos a]
  .rw[decide_eq_false g,BN];unfold frB;rw[if_neg (fun h=>g ⟨by have:=h.2;omega,by have:=h.2;omega⟩)]
 .rw[decide_eq_false c,BN];unfold frB;rw[if_neg (fun h=>c h.1)]
end Lv.P
namespace Lv.P
open Lv Go
end Lv.P
