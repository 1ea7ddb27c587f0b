/-
  Plain laws: events, loops, numbers in bytes.
-/
import Derived.Test.YtpbbmlmilagnkaaGreatKC
import Derived.Test.YtpbbmlmilagnkaaGreatPA
set_option linter.unusedVariables false
set_option linter.unusedSimpArgs false
set_option linter.unusedSectionVars false
open Int renaming eq_ofNat_of_zero_le->Bb
open List renaming length_cons->Ao,length_nil->Ad
open Nat renaming zero_add->Af
namespace Lv.P
open Go (IntKind BinOp UnOp)
@[simp] theorem AQw(a b c:Int):EM a b c=some (decide (b<=a/\a<=c)):=by
 grind[EM,Xt,Bl,AW]
@[simp] theorem AJp(a b c:Int):Ck a b c=some (decide (b<=a/\a<=c)):=by
 grind[Ck,TH,Bl,AW]
def Uf(n:Nat):List UInt8:=if n<128 then [UInt8.ofNat n] else UInt8.ofNat (n % 128+128)::Uf (n / 128)
decreasing_by omega
def pN(n:Int):List UInt8:=if 0<=n/\n<=2147483647 then Uf n.toNat else []
theorem pk{n:Nat}(h:n<128):Uf n=[UInt8.ofNat n]:=by rw[Uf,if_pos h]
theorem AGa{n:Nat}(h:128<=n):Uf n=UInt8.ofNat (n % 128+128)::Uf (n / 128):=by rw[Uf,if_neg (by omega)]
theorem pj(n:Nat):0<(Uf n).length:=by rw[Uf];split<;>simp
theorem XY:∀(k n:Nat),n<128 ^ (k+1)->(Uf n).length<=k+1
 |0,n,h=>by rw[pk (by simpa using h)];simp|k+1,n,h=>by
  rcases Nat.lt_or_ge n 128 with h1|h1
  .rw[pk h1];simp
  .rw[AGa h1];have:=XY k (n / 128) (by rw[Nat.div_lt_iff_lt_mul (by omega)];rw[Nat.pow_succ]at h;exact h);simp only[Ao];omega
theorem AHv{n:Nat}(h:n<=2147483647):(Uf n).length<=5:=XY 4 n (by omega)
theorem AGZ{F:(Int×List UInt8->AA (List UInt8))->Int×List UInt8->AA (List UInt8)}
 (hF:∀L n acc,F L (n,acc)=if n<128 then gd (acc.length+1<=lim) (some (acc++[toB n])) else gd (acc.length+1<=lim) (L (w64 (Int.tdiv n 128),acc++[toB (w64 (Int.tmod n 128+128))])))
 {n:Nat} (hn:n<=2147483647):Aw F big ((n:Int),[])=some (Uf n):=by
 have:=WS (F:=F) (x:=((n:Int),[])) (fun x=>some (x.2++Uf x.1.toNat)) (fun x=>0<=x.1/\x.1<=2147483647/\x.2.length+(Uf x.1.toNat).length<=5) (fun x=>x.1.toNat) ?_ ?_ ?_
 .simpa using this
 .rintro L ⟨m,acc⟩ ⟨h0,h1,h2⟩ hL;dsimp only at h0 h1 h2 hL ⊢;obtain⟨m,rfl⟩:=Bb h0;rw[hF];simp only[Int.toNat_natCast]at h2 hL ⊢;have hlim:acc.length+1<=lim:=by have:=pj m;unfold lim;omega
  by_cases h:m<128
  .rw[if_pos (by omega),DB hlim,pk h,AGq (by omega)]
  .have e1:Int.tdiv (m:Int) 128=((m / 128:Nat):Int):=by
    rw[Int.tdiv_eq_ediv_of_nonneg (by omega)];rfl
   have e2:Int.tmod (m:Int) 128+128=((m % 128+128:Nat):Int):=by
    rw[Int.tmod_eq_emod_of_nonneg (by omega)];omega
   have hp:=AGa (n:=m) (by omega);rw[if_neg (by omega),DB hlim,e1,e2,BP (by omega) (by omega),BP (by omega) (by omega),AGq (by omega)]
   grind[Int.toNat_natCast,List.length_append,List.length_cons,List.length_nil]
 .refine⟨by dsimp only;omega,by dsimp only;omega,?_⟩;have:=AHv hn;simpa using this
 .dsimp only;omega
@[simp] theorem AR4(n:Int):Lt n=some (pN n):=by
 unfold Lt pN;simp only[AQw,AF,BI,Bl];split
 .rename_i h;obtain⟨m,rfl⟩:=Bb h.1;refine AGZ (fun L n acc=>?_) (by omega);unfold Mg Mf;simp only[Bl,AW,Ao,Ad,Af];by_cases h:n>127
  .grind
  .rw[if_neg h,if_pos (by omega)]
 .rfl
@[simp] theorem ARt(n:Int):Hm n=some (pN n):=by
 unfold Hm pN;simp only[AJp,AF,BI,Bl];split
 .rename_i h;obtain⟨m,rfl⟩:=Bb h.1;refine AGZ (fun L n acc=>?_) (by omega);unfold Mb Ma;simp only[Bl,AW,Ao,Ad,Af];by_cases h:n>=128
  .grind
  .rw[if_neg h,if_pos (by omega)]
 .rfl
def rdN:Nat->Nat->Nat->List UInt8->AA (Nat×Nat)
 |0,_,_,_=>none|_+1,_,_,[]=>none|f+1,k,a,d::l=>
  if d.toNat<128 then (if (0<k/\d.toNat=0)\/2147483647<a+(d.toNat % 128)*2 ^ (7*k) then none else some (a+(d.toNat % 128)*2 ^ (7*k),k+1))
  else rdN f (k+1) (a+(d.toNat % 128)*2 ^ (7*k)) l
end Lv.P
namespace Lv.P
open Go (IntKind BinOp UnOp)
def rdL:Nat->List UInt8->AA (List Int)
 |0,_=>none|f+1,[]=>some []|f+1,l=>match rdN 5 0 0 l with|some (n,m)=>(rdL f (l.drop m)).map ((n:Int)::·)|none=>none
def pL(l:List Int):List UInt8:=l.flatMap pN
def fld(n:Int):Bool:=decide (0<=n/\n<=9999)
def AR0(q:Bw):Bool:=
 if q.Kind=1 then fld q.Id&&fld q.AT&&decide (-1<=q.BQ/\q.BQ<=9999)&&fld q.A1&&fld q.CT
 else if q.Kind=2\/q.Kind=4\/q.Kind=5\/q.Kind=7 then fld q.Id&&(q.AT==0&&(q.BQ==0&&(q.A1==0&&q.CT==0)))
 else if q.Kind=3 then fld q.AT&&fld q.A1&&(q.Id==0&&(q.BQ==0&&q.CT==0))
 else if q.Kind=6 then q.Id==0&&(q.AT==0&&(q.BQ==0&&(q.A1==0&&q.CT==0)))
 else false
def ARJ(q:Bw):List Int:=
 if q.Kind=1 then [q.Kind,q.Id,q.AT,q.BQ+1,q.A1,q.CT]
 else if q.Kind=3 then [q.Kind,q.AT,q.A1]
 else if q.Kind=6 then [q.Kind]
 else [q.Kind,q.Id]
def AUj(q:Bw):List UInt8:=if AR0 q then pL (ARJ q) else []
@[simp] theorem ATF(n:Int):Oe n=some (fld n):=by unfold Oe fld;simp
@[simp] theorem ASq(n:Int):Oh n=some (fld n):=by unfold Oh fld;simp
noncomputable def ATp(s:List UInt8):Bw×Bool:=open Classical in if h:∃q,AR0 q=true/\AUj q=s then (h.choose,true) else (⟨0,0,0,0,0,0⟩,false)
end Lv.P
namespace Lv.P
open Go (IntKind BinOp UnOp)
@[simp] theorem ASj(q:Bw):jx q q=some true:=by
 unfold jx;simp[B5]
end Lv.P
namespace Lv.P
open Go (IntKind BinOp UnOp)
def ASS(v:Nat):Nat:=if v % 2=1 then (v / 2) ^^^ 3988292384 else v / 2
def ADj:Nat->Nat->Nat|0,v=>v|k+1,v=>ADj k (ASS v)
def ADk:Nat->List UInt8->Nat|v,[]=>v|v,x::l=>ADk (ADj 8 (v ^^^ x.toNat)) l
def ARg(s:List UInt8):Nat:=ADk 4294967295 s ^^^ 4294967295
def four(c:Int):List UInt8:=[toB (DR c 24),toB (DR c 16),toB (DR c 8),toB c]
def AQn(q:Int)(b:List UInt8):Prop:=(1<=q/\q<=1000000)/\(1<=b.length/\b.length<=60)
instance (q:Int) (b:List UInt8):Decidable (AQn q b):=by unfold AQn;infer_instance
def frT(q:Int)(b:List UInt8):List UInt8:=four ((ARg (pN q++b):Nat):Int)++(pN q++b)
def frB(q:Int)(b:List UInt8):List UInt8:=if AQn q b then pN ((frT q b).length:Int)++frT q b else []
end Lv.P
namespace Lv.P
open Lv Go
end Lv.P
