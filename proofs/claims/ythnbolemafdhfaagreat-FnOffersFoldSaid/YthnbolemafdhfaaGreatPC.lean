/-
  Plain laws: events, loops, numbers in bytes.
-/
import Derived.Test.YthnbolemafdhfaaGreatKC
import Derived.Test.YthnbolemafdhfaaGreatPA
set_option linter.unusedVariables false
set_option linter.unusedSimpArgs false
set_option linter.unusedSectionVars false
namespace Lv.P
open Go (IntKind BinOp UnOp)
@[simp] theorem xL(a b c:Int):CN a b c=some (decide (b<=a/\a<=c)):=by
 unfold CN Qq;simp only [BT,AO];by_cases h:a>=b <;> simp [h,show b<=a↔a>=b from Iff.rfl]
@[simp] theorem po(a b c:Int):Fo a b c=some (decide (b<=a/\a<=c)):=by
 unfold Fo FW;simp only [BT,AO];by_cases h:a>=b <;> simp [h,show b<=a↔a>=b from Iff.rfl]
def OO(n:Nat):List UInt8:=if n<128 then [UInt8.ofNat n] else UInt8.ofNat (n % 128+128)::OO (n / 128)
decreasing_by omega
def pN(n:Int):List UInt8:=if 0<=n/\n<=2147483647 then OO n.toNat else []
theorem ZF{n:Nat}(h:n<128):OO n=[UInt8.ofNat n]:=by rw [OO,if_pos h]
theorem mC{n:Nat}(h:128<=n):OO n=UInt8.ofNat (n % 128+128)::OO (n / 128):=by rw [OO,if_neg (by omega)]
theorem ZE(n:Nat):0<(OO n).length:=by rw [OO];split <;> simp
theorem QV:∀(k n:Nat),n<128 ^ (k+1)->(OO n).length<=k+1
 |0,n,h=>by rw [ZF (by simpa using h)];simp
 |k+1,n,h=>by
  rcases Nat.lt_or_ge n 128 with h1|h1
  .rw [ZF h1];simp
  .rw [mC h1];have:=QV k (n / 128) (by rw [Nat.div_lt_iff_lt_mul (by omega)];rw [Nat.pow_succ] at h;exact h);simp only [List.length_cons];omega
theorem nV{n:Nat}(h:n<=2147483647):(OO n).length<=5:=QV 4 n (by omega)
theorem mB{F:(Int×List UInt8->Option (List UInt8))->Int×List UInt8->Option (List UInt8)}
 (hF:∀L n acc,F L (n,acc)=if n<128 then gd (acc.length+1<=lim) (some (acc++[toB n])) else gd (acc.length+1<=lim) (L (w64 (Int.tdiv n 128),acc++[toB (w64 (Int.tmod n 128+128))])))
 {n:Nat} (hn:n<=2147483647):Ap F big ((n:Int),[])=some (OO n):=by
 have:=Wq (F:=F) (x:=((n:Int),[])) (fun x=>some (x.2++OO x.1.toNat)) (fun x=>0<=x.1/\x.1<=2147483647/\x.2.length+(OO x.1.toNat).length<=5) (fun x=>x.1.toNat) ?_ ?_ ?_
 .simpa using this
 .rintro L ⟨m,acc⟩ ⟨h0,h1,h2⟩ hL;dsimp only at h0 h1 h2 hL ⊢;obtain⟨m,rfl⟩:=Int.eq_ofNat_of_zero_le h0;rw [hF];simp only [Int.toNat_natCast] at h2 hL ⊢;have hlim:acc.length+1<=lim:=by have:=ZE m;unfold lim;omega
  by_cases h:m<128
  .rw [if_pos (by omega),BP hlim,ZF h,mR (by omega)]
  .have e1:Int.tdiv (m:Int) 128=((m / 128:Nat):Int):=by
    rw [Int.tdiv_eq_ediv_of_nonneg (by omega)];rfl
   have e2:Int.tmod (m:Int) 128+128=((m % 128+128:Nat):Int):=by
    rw [Int.tmod_eq_emod_of_nonneg (by omega)];omega
   have hp:=mC (n:=m) (by omega);rw [if_neg (by omega),BP hlim,e1,e2,Ai (by omega) (by omega),Ai (by omega) (by omega),mR (by omega)];rw [hL _ ⟨by dsimp only;omega,by dsimp only;omega,?_⟩ (by dsimp only;omega)]
   .simp only [Int.toNat_natCast,hp];simp
   .rw [hp] at h2;simp only [List.length_append,List.length_cons,List.length_nil,Int.toNat_natCast] at h2 ⊢;omega
 .refine⟨by dsimp only;omega,by dsimp only;omega,?_⟩;have:=nV hn;simpa using this
 .dsimp only;omega
@[simp] theorem yY(n:Int):MP n=some (pN n):=by
 unfold MP pN;simp only [xL,AD,Bg,BT];split
 .rename_i h;obtain⟨m,rfl⟩:=Int.eq_ofNat_of_zero_le h.1;refine mB (fun L n acc=>?_) (by omega);unfold IF IE;simp only [BT,AO,List.length_cons,List.length_nil,Nat.zero_add];by_cases h:n>127
  .rw [if_pos h,if_neg (by omega)]
  .rw [if_neg h,if_pos (by omega)]
 .rfl
@[simp] theorem yP(n:Int):MO n=some (pN n):=by
 unfold MO pN;simp only [po,AD,Bg,BT];split
 .rename_i h;obtain⟨m,rfl⟩:=Int.eq_ofNat_of_zero_le h.1;refine mB (fun L n acc=>?_) (by omega);unfold ID IC;simp only [BT,AO,List.length_cons,List.length_nil,Nat.zero_add];by_cases h:n>=128
  .rw [if_pos h,if_neg (by omega)]
  .rw [if_neg h,if_pos (by omega)]
 .rfl
def rdN:Nat->Nat->Nat->List UInt8->Option (Nat×Nat)
 |0,_,_,_=>none
 |_+1,_,_,[]=>none
 |f+1,k,a,d::l=>
  if d.toNat<128 then (if (0<k/\d.toNat=0)\/2147483647<a+(d.toNat % 128)*2 ^ (7*k) then none else some (a+(d.toNat % 128)*2 ^ (7*k),k+1))
  else rdN f (k+1) (a+(d.toNat % 128)*2 ^ (7*k)) l
end Lv.P
namespace Lv.P
open Go (IntKind BinOp UnOp)
def rdL:Nat->List UInt8->Option (List Int)
 |0,_=>none
 |f+1,[]=>some []
 |f+1,l=>match rdN 5 0 0 l with
  |some (n,m)=>(rdL f (l.drop m)).map ((n:Int)::·)
  |none=>none
def pL(l:List Int):List UInt8:=l.flatMap pN
def fld(n:Int):Bool:=decide (0<=n/\n<=9999)
@[simp] theorem zZ(n:Int):Qg n=some (fld n):=by unfold Qg fld;simp
@[simp] theorem y9(n:Int):J8 n=some (fld n):=by unfold J8 fld;simp
end Lv.P
namespace Lv.P
open Go (IntKind BinOp UnOp)
@[simp] theorem y2(q:Aq):NV q q=some true:=by
 unfold NV;simp [A7]
end Lv.P
namespace Lv.P
open Go (IntKind BinOp UnOp)
def yv(v:Nat):Nat:=if v % 2=1 then (v / 2) ^^^ 3988292384 else v / 2
def jm:Nat->Nat->Nat
 |0,v=>v
 |k+1,v=>jm k (yv v)
def jo:Nat->List UInt8->Nat
 |v,[]=>v
 |v,x::l=>jo (jm 8 (v ^^^ x.toNat)) l
def yM(s:List UInt8):Nat:=jo 4294967295 s ^^^ 4294967295
def four(c:Int):List UInt8:=[toB (U5 c 24),toB (U5 c 16),toB (U5 c 8),toB c]
def xE(q:Int)(b:List UInt8):Prop:=(1<=q/\q<=1000000)/\(1<=b.length/\b.length<=60)
instance (q:Int) (b:List UInt8):Decidable (xE q b):=by unfold xE;infer_instance
def frT(q:Int)(b:List UInt8):List UInt8:=four ((yM (pN q++b):Nat):Int)++(pN q++b)
def frB(q:Int)(b:List UInt8):List UInt8:=if xE q b then pN ((frT q b).length:Int)++frT q b else []
end Lv.P
namespace Lv.P
open Lv Go
theorem Mk{α:Type}{l:List α}{i:Int}(h0:0<=i)(h1:i<l.length):∃x,at? l i=some x:=by
 obtain⟨n,rfl⟩:=Int.eq_ofNat_of_zero_le h0;exact⟨_,Af (by omega)⟩
end Lv.P
