/-
  Plain laws: a frame at a place is found the same by both.
-/
import Derived.Test.YtpbbmlmilagnkaaGreatPC
import Derived.Test.YtpbbmlmilagnkaaGreatPD
noncomputable section
set_option linter.unusedVariables false
set_option linter.unusedSimpArgs false
set_option linter.unusedSectionVars false
open List renaming getElem_mem->Am,nil_append->B6,take_length->DS
open Nat renaming lt_or_ge->Aj
namespace Lv.P
open Go (IntKind BinOp UnOp)
def AUg(d:List UInt8)(i:Int):Jo×Bool:=
 open Classical in if h:∃x:Int×List UInt8,AQn x.1 x.2/\frB x.1 x.2 <+: d then (⟨h.choose.1,h.choose.2,i+(frB h.choose.1 h.choose.2).length⟩,true) else (⟨0,[],0⟩,false)
def ASn(s:List UInt8)(i:Int):Jo×Bool:=if 0<=i/\i<=s.length then AUg (s.drop i.toNat) i else (⟨0,[],0⟩,false)
@[simp] theorem ATj(a b:Int):TD a b=some (if a<b then a else b):=by
 unfold TD;rw[Bl];split<;>rfl
end Lv.P
namespace Lv.P
open Go (IntKind BinOp UnOp)
def frs:Nat->List UInt8->Int->List Jo|0,_,_=>[]|f+1,s,i=>if (ASn s i).2=true then (ASn s i).1::frs f s (ASn s i).1.Next else []
def ALV(s:List UInt8):List Jo:=frs (s.length+1) s 0
end Lv.P
namespace Lv.P
open Go (IntKind BinOp UnOp)
end Lv.P
namespace Lv.P
open Go (IntKind BinOp UnOp)
theorem ATZ{l:List AQ}(hl:l.length<=1048576):TR l=some l:=Py (by unfold lim;omega)
theorem rm{F:(Int×Ah->AA Ah)->Int×Ah->AA Ah}{w:Ah}(hw:DK w)
 (step:∀L i (h:i<w.Aa.length) (v:Ah),v.Aa.length=i->F L ((i:Int),v)=L (w64 ((i:Int)+1),⟨v.Aa++[w.Aa[i]]⟩)) (stop:∀L v,F L ((w.Aa.length:Int),v)=some v):Aw F big (0,⟨[]⟩)=some w:=by
 have h1:=hw.1;refine C5 (n:=w.Aa.length) (fun i (v:Ah)=>((i:Int),v)) (fun i v=>v=⟨w.Aa.take i⟩) (fun _ _=>some w) (by omega) ?_ (v:=⟨[]⟩) (by simp);intro L i v hv hi ih;rcases Aj i w.Aa.length with h|h
 .rw[step L i h v (by rw[hv];simp;omega),Bd h (by omega)]
  grind[List.take_add_one,List.getElem?_eq_getElem]
 .obtain rfl:i=w.Aa.length:=by omega
  rw[stop,hv,DS]
theorem P5{w:Ah}(hw:DK w):aC w=some w:=by
 have hlim:lim=268435456:=rfl;have h1:=hw.1;have h2:=hw.2
 grind[aC,rm,HR,uJ,A3,BW,A5,AF,DB,KK,uI,BV,AW]
theorem P4{w:Ah}(hw:DK w):aX w=some w:=by
 have hlim:lim=268435456:=rfl;have h1:=hw.1;have h2:=hw.2
 grind[aX,rm,HR,vH,A3,BW,A5,AF,DB,KK,vG,BV,AW]
theorem AHC{c:AS}(hc:Da c):AEP c=some c:=by
 unfold AEP;rw[ATZ hc.1,AF,P5 hc.2,AF]
theorem AHB{c:AS}(hc:Da c):AEr c=some c:=by
 unfold AEr Tn;have:=hc.1;rw[DB (by unfold lim;omega),AF,P4 hc.2,AF]
theorem mf{l:List Int}(hl:l.length<=1048576):I2 l=some l:=by
 unfold I2;rw[DB (by unfold lim;omega)]
theorem rl{F:(Int×AE->AA AE)->Int×AE->AA AE}{h:AE}(hf:Ba h)
 (step:∀L i (hi:i<h.AH.length) (v:AE),v.AH.length=i->F L ((i:Int),v)=L (w64 ((i:Int)+1),⟨v.AO,v.Now,v.Ai,v.AG,v.AH++[h.AH[i]],v.A0,v.Ay⟩)) (stop:∀L v,F L ((h.AH.length:Int),v)=some v):Aw F big (0,⟨h.AO,h.Now,h.Ai,h.AG,[],h.A0,h.Ay⟩)=some h:=by
 have h1:=hf.D7;refine C5 (n:=h.AH.length) (fun i (v:AE)=>((i:Int),v)) (fun i v=>v=⟨h.AO,h.Now,h.Ai,h.AG,h.AH.take i,h.A0,h.Ay⟩) (fun _ _=>some h) (by omega) ?_ (v:=⟨h.AO,h.Now,h.Ai,h.AG,[],h.A0,h.Ay⟩) (by simp);intro L i v hv hi ih;rcases Aj i h.AH.length with hc|hc
 .rw[step L i hc v (by rw[hv];simp;omega),Bd hc (by omega)]
  grind[List.take_add_one,List.getElem?_eq_getElem]
 .obtain rfl:i=h.AH.length:=by omega
  rw[stop,hv,DS]
theorem GA{h:AE}(hf:Ba h):Kr h=some h:=by
 have hlim:lim=268435456:=rfl;have g0:=hf.DV;have p1:=hf.Bv;have p2:=hf.todo;have p3:=hf.FL;have p4:=hf.D7;have g1:0+h.AG.length<=lim:=by omega
 have g2:0+h.A0.length<=lim:=by omega
 have g3:0+h.Ay.length<=lim:=by omega
 unfold Kr;simp only[lQ g0,AF,DB g1,DB g2,DB g3,ADO,B6,OZ,RX,Ch,B0,vE,Ja,vF,aV,CV,j9,Mr,VY,KQ,KR,kD,kC,aW,kF,VZ,Vb,Va,Vc,kH,kG,kE,Gj,kK,Vd,Vf,Ve,Vg,kM,kL,kJ,P9,Vh,Vi,kQ,kP,kO,kV,Vj,kU,kS,kY,kX,kW,kR,kN,kI];refine rl hf ?_ ?_
 .intro L i hi v hv;unfold Vk;dsimp only;rw[A3 hi,BW,A5 hi,AF,AHC (hf.C4 _ (Am hi)),AF,DB (by rw[KK];omega)]
 grind[Vk,kZ,BV,AW]
theorem FV{h:AE}(hf:Ba h):Ks h=some h:=by
 have hlim:lim=268435456:=rfl;have g0:=hf.DV;have p1:=hf.Bv;have p2:=hf.todo;have p3:=hf.FL;have p4:=hf.D7;have g1:0+h.AG.length<=lim:=by omega
 unfold Ks;simp only[lP g0,AF,DB g1,mf p2,mf p3,Cz,Vp,Vq,Vr,Vt,RX,Vu,Vv,OZ,OX,RL,Xg,U8,g9];refine rl hf ?_ ?_
 .intro L i hi v hv;unfold aY;dsimp only;rw[A3 hi,BW,A5 hi,AF,AHB (hf.C4 _ (Am hi)),AF,DB (by rw[KK];omega)]
 grind[aY,vI,BV,AW]
theorem zK{e:Be}(he:E2 e):AEq e=some e:=by
 have hlim:lim=268435456:=rfl;have:=he.laid;have g:0+e.Laid.length<=lim:=by omega
 unfold AEq;simp only[GA he.FQ,AF,DB g,Cz,Vp,Vq,Vr,Vt,RX,Vu,Vv,OZ,OX,RL,Xg,U8,g9,B6]
theorem zJ{e:Be}(he:E2 e):AEs e=some e:=by
 have hlim:lim=268435456:=rfl;have:=he.laid;unfold AEs;rw[FV he.FQ,AF,DB (by omega)]
end Lv.P
