/-
  Plain laws: a frame at a place is found the same by both.
-/
import Derived.Test.YthnbolemafdhfaaGreatPC
import Derived.Test.YthnbolemafdhfaaGreatPD
set_option linter.unusedVariables false
set_option linter.unusedSimpArgs false
set_option linter.unusedSectionVars false
namespace Lv.P
open Go (IntKind BinOp UnOp)
noncomputable def ABp(d:List UInt8)(i:Int):Gq×Bool:=
 open Classical in if h:∃x:Int×List UInt8,xE x.1 x.2/\frB x.1 x.2 <+: d then (⟨h.choose.1,h.choose.2,i+(frB h.choose.1 h.choose.2).length⟩,true) else (⟨0,[],0⟩,false)
noncomputable def y6(s:List UInt8)(i:Int):Gq×Bool:=if 0<=i/\i<=s.length then ABp (s.drop i.toNat) i else (⟨0,[],0⟩,false)
@[simp] theorem rh(a b:Int):kA a b=some (if a<b then a else b):=by
 unfold kA;rw [BT];split <;> rfl
end Lv.P
namespace Lv.P
open Go (IntKind BinOp UnOp)
noncomputable def frs:Nat->List UInt8->Int->List Gq
 |0,_,_=>[]
 |f+1,s,i=>if (y6 s i).2=true then (y6 s i).1::frs f s (y6 s i).1.Next else []
noncomputable def rV(s:List UInt8):List Gq:=frs (s.length+1) s 0
end Lv.P
namespace Lv.P
open Go (IntKind BinOp UnOp)
end Lv.P
namespace Lv.P
open Go (IntKind BinOp UnOp)
theorem zv{l:List AT}(hl:l.length<=1048576):VX l=some l:=F9 (by unfold lim;omega)
theorem rB{F:(Int×AU->Option AU)->Int×AU->Option AU}{w:AU}(hw:CD w)
 (step:∀L i (h:i<w.AP.length) (v:AU),v.AP.length=i->F L ((i:Int),v)=L (w64 ((i:Int)+1),⟨v.AP++[w.AP[i]]⟩)) (stop:∀L v,F L ((w.AP.length:Int),v)=some v):Ap F big (0,⟨[]⟩)=some w:=by
 have h1:=hw.1;refine B8 (n:=w.AP.length) (fun i (v:AU)=>((i:Int),v)) (fun i v=>v=⟨w.AP.take i⟩) (fun _ _=>some w) (by omega) ?_ (v:=⟨[]⟩) (by simp);intro L i v hv hi ih;rcases Nat.lt_or_ge i w.AP.length with h|h
 .rw [step L i h v (by rw [hv];simp;omega),Av h (by omega)];refine ih _ ?_ h;rw [hv,List.take_add_one,List.getElem?_eq_getElem h];rfl
 .obtain rfl:i=w.AP.length:=by omega
  rw [stop,hv,List.take_length]
theorem LY{w:AU}(hw:CD w):Rc w=some w:=by
 have hlim:lim=268435456:=rfl;have h1:=hw.1;have h2:=hw.2;unfold Rc;refine rB hw ?_ ?_
 .intro L i h v hv;have:=Ir h;unfold Re;dsimp only;rw [A4 h,BE,Af h,AD,BP (by omega),BP (by rw [Ht];omega),List.nil_append]
 .intro L v;unfold Re af;dsimp only;rw [A3,A9,AO]
theorem mr{c:AZ}(hc:EZ c):j9 c=some c:=by
 unfold j9;rw [zv hc.1,AD,LY hc.2,AD]
theorem rA{F:(Int×AA->Option AA)->Int×AA->Option AA}{h:AA}(hf:Ar h)
 (step:∀L i (hi:i<h.AE.length) (v:AA),v.AE.length=i->F L ((i:Int),v)=L (w64 ((i:Int)+1),⟨v.AG,v.Now,v.AQ,v.AB,v.AE++[h.AE[i]],v.AW,v.AS⟩)) (stop:∀L v,F L ((h.AE.length:Int),v)=some v):Ap F big (0,⟨h.AG,h.Now,h.AQ,h.AB,[],h.AW,h.AS⟩)=some h:=by
 have h1:=hf.B2;refine B8 (n:=h.AE.length) (fun i (v:AA)=>((i:Int),v)) (fun i v=>v=⟨h.AG,h.Now,h.AQ,h.AB,h.AE.take i,h.AW,h.AS⟩) (fun _ _=>some h) (by omega) ?_ (v:=⟨h.AG,h.Now,h.AQ,h.AB,[],h.AW,h.AS⟩) (by simp);intro L i v hv hi ih;rcases Nat.lt_or_ge i h.AE.length with hc|hc
 .rw [step L i hc v (by rw [hv];simp;omega),Av hc (by omega)];refine ih _ ?_ hc;have e:h.AE.take (i+1)=h.AE.take i++[h.AE[i]]:=by rw [List.take_add_one,List.getElem?_eq_getElem hc];rfl
  rw [hv,e]
 .obtain rfl:i=h.AE.length:=by omega
  rw [stop,hv,List.take_length]
theorem Dv{h:AA}(hf:Ar h):IH h=some h:=by
 have hlim:lim=268435456:=rfl;have g0:=hf.Cl;have p1:=hf.BC;have p2:=hf.todo;have p3:=hf.DJ;have p4:=hf.B2;have g1:0+h.AB.length<=lim:=by omega
 have g2:0+h.AW.length<=lim:=by omega
 have g3:0+h.AS.length<=lim:=by omega
 unfold IH;simp only [Wt g0,AD,BP g1,BP g2,BP g3,jQ,List.nil_append,Zo,I7,BK,Aw,ag,Fv,ah,Rf,BA,Vy,II,O2,Gg,Gi,V1,Vz,Rg,V3,O3,O5,O4,O6,V5,V4,V2,Dw,V8,O7,O9,O8,PA,WA,V9,V7,La,PB,PC,WE,WD,WC,WJ,PD,WI,WH,WM,WL,WK,WG,WB,V6];refine rA hf ?_ ?_
 .intro L i hi v hv;unfold PE;dsimp only;rw [A4 hi,BE,Af hi,AD,mr (hf.B4 _ (List.getElem_mem hi)),AD,BP (by rw [Ht];omega)]
 .intro L v;unfold PE WN;dsimp only;rw [A3,A9,AO]
end Lv.P
