/-
  Plain laws: a frame at a place is found the same by both.
-/
import Derived.Test.YtffakkimlookoaaGreatPC
import Derived.Test.YtffakkimlookoaaGreatPD
set_option linter.unusedVariables false
set_option linter.unusedSimpArgs false
namespace Lv.P
open Go (IntKind BinOp UnOp)
noncomputable def AAw(d:List UInt8)(i:Int):Gq×Bool:=
 open Classical in if h:∃x:Int×List UInt8,uj x.1 x.2/\frB x.1 x.2 <+: d then (⟨h.choose.1,h.choose.2,i+(frB h.choose.1 h.choose.2).length⟩,true) else (⟨0,[],0⟩,false)
noncomputable def xC(s:List UInt8)(i:Int):Gq×Bool:=if 0<=i/\i<=s.length then AAw (s.drop i.toNat) i else (⟨0,[],0⟩,false)
@[simp] theorem yR(a b:Int):Ox a b=some (if a<b then a else b):=by
 unfold Ox;rw [AT];split <;> rfl
end Lv.P
namespace Lv.P
open Go (IntKind BinOp UnOp)
noncomputable def frs:Nat->List UInt8->Int->List Gq
 |0,_,_=>[]
 |f+1,s,i=>if (xC s i).2=true then (xC s i).1::frs f s (xC s i).1.Next else []
noncomputable def rY(s:List UInt8):List Gq:=frs (s.length+1) s 0
end Lv.P
namespace Lv.P
open Go (IntKind BinOp UnOp)
end Lv.P
namespace Lv.P
open Go (IntKind BinOp UnOp)
theorem cV{F:(Int×AP->Option AP)->Int×AP->Option AP}{w:AP}(hw:BW w)
 (step:∀L i (h:i<w.AJ.length) (v:AP),v.AJ.length=i->F L ((i:Int),v)=L (w64 ((i:Int)+1),⟨v.AJ++[w.AJ[i]]⟩)) (stop:∀L v,F L ((w.AJ.length:Int),v)=some v):AR F big (0,⟨[]⟩)=some w:=by
 have h1:=hw.1;refine Bz (n:=w.AJ.length) (fun i (v:AP)=>((i:Int),v)) (fun i v=>v=⟨w.AJ.take i⟩) (fun _ _=>some w) (by omega) ?_ (v:=⟨[]⟩) (by simp);intro L i v hv hi ih;rcases Nat.lt_or_ge i w.AJ.length with h|h
 .rw [step L i h v (by rw [hv];simp;omega),Av h (by omega)];refine ih _ ?_ h;rw [hv,List.take_add_one,List.getElem?_eq_getElem h];rfl
 .obtain rfl:i=w.AJ.length:=by omega
  rw [stop,hv,List.take_length]
theorem Xx{w:AP}(hw:BW w):dp w=some w:=by
 have hlim:lim=268435456:=rfl;have h1:=hw.1;have h2:=hw.2;unfold dp;refine cV hw ?_ ?_
 .intro L i h v hv;have:=Fu h;unfold UC;dsimp only;rw [AX h,Af,Ac h,AA,BE (by omega),BE (by rw [Er];omega),List.nil_append]
 .intro L v;unfold UC dq;dsimp only;rw [AY,Ag,AE]
theorem Xw{w:AP}(hw:BW w):dt w=some w:=by
 have hlim:lim=268435456:=rfl;have h1:=hw.1;have h2:=hw.2;unfold dt;refine cV hw ?_ ?_
 .intro L i h v hv;have:=Fu h;unfold UD;dsimp only;rw [AX h,Af,Ac h,AA,BE (by omega),BE (by rw [Er];omega)]
 .intro L v;unfold UD du;dsimp only;rw [AY,Ag,AE]
theorem kz{l:List Int}(hl:l.length<=1048576):Ua l=some l:=by
 unfold Ua;rw [BE (by unfold lim;omega)]
end Lv.P
