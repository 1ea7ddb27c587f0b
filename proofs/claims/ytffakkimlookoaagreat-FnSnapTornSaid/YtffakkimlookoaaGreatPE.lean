/-
  Plain laws: a frame at a place is found the same by both.
-/
import Derived.Test.YtffakkimlookoaaGreatPC
import Derived.Test.YtffakkimlookoaaGreatPD
set_option linter.unusedVariables false
set_option linter.unusedSimpArgs false
namespace Lv.P
open Go (IntKind BinOp UnOp)
noncomputable def AA5(d:List UInt8)(i:Int):Gj×Bool:=
 open Classical in if h:∃x:Int×List UInt8,uw x.1 x.2/\frB x.1 x.2 <+: d then (⟨h.choose.1,h.choose.2,i+(frB h.choose.1 h.choose.2).length⟩,true) else (⟨0,[],0⟩,false)
noncomputable def xM(s:List UInt8)(i:Int):Gj×Bool:=if 0<=i/\i<=s.length then AA5 (s.drop i.toNat) i else (⟨0,[],0⟩,false)
@[simp] theorem rr(a b:Int):mG a b=some (if a<b then a else b):=by
 unfold mG;rw [AV];split <;> rfl
end Lv.P
namespace Lv.P
open Go (IntKind BinOp UnOp)
noncomputable def frs:Nat->List UInt8->Int->List Gj
 |0,_,_=>[]
 |f+1,s,i=>if (xM s i).2=true then (xM s i).1::frs f s (xM s i).1.Next else []
noncomputable def rZ(s:List UInt8):List Gj:=frs (s.length+1) s 0
end Lv.P
namespace Lv.P
open Go (IntKind BinOp UnOp)
end Lv.P
namespace Lv.P
open Go (IntKind BinOp UnOp)
theorem cS{F:(Int×AK->Option AK)->Int×AK->Option AK}{w:AK}(hw:BU w)
 (step:∀L i (h:i<w.AJ.length) (v:AK),v.AJ.length=i->F L ((i:Int),v)=L (w64 ((i:Int)+1),⟨v.AJ++[w.AJ[i]]⟩)) (stop:∀L v,F L ((w.AJ.length:Int),v)=some v):AT F big (0,⟨[]⟩)=some w:=by
 have h1:=hw.1;refine Bz (n:=w.AJ.length) (fun i (v:AK)=>((i:Int),v)) (fun i v=>v=⟨w.AJ.take i⟩) (fun _ _=>some w) (by omega) ?_ (v:=⟨[]⟩) (by simp);intro L i v hv hi ih;rcases Nat.lt_or_ge i w.AJ.length with h|h
 .rw [step L i h v (by rw [hv];simp;omega),Ag h (by omega)];refine ih _ ?_ h;rw [hv,List.take_add_one,List.getElem?_eq_getElem h];rfl
 .obtain rfl:i=w.AJ.length:=by omega
  rw [stop,hv,List.take_length]
theorem Xt{w:AK}(hw:BU w):dV w=some w:=by
 have hlim:lim=268435456:=rfl;have h1:=hw.1;have h2:=hw.2;unfold dV;refine cS hw ?_ ?_
 .intro L i h v hv;have:=Ge h;unfold TV;dsimp only;rw [Ac h,Ab,AX h,AA,A1 (by omega),A1 (by rw [DC];omega),List.nil_append]
 .intro L v;unfold TV dW;dsimp only;rw [Ae,Ad,AG]
theorem Xs{w:AK}(hw:BU w):dX w=some w:=by
 have hlim:lim=268435456:=rfl;have h1:=hw.1;have h2:=hw.2;unfold dX;refine cS hw ?_ ?_
 .intro L i h v hv;have:=Ge h;unfold TW;dsimp only;rw [Ac h,Ab,AX h,AA,A1 (by omega),A1 (by rw [DC];omega)]
 .intro L v;unfold TW dY;dsimp only;rw [Ae,Ad,AG]
theorem lW{l:List Int}(hl:l.length<=1048576):T3 l=some l:=by
 unfold T3;rw [A1 (by unfold lim;omega)]
end Lv.P
