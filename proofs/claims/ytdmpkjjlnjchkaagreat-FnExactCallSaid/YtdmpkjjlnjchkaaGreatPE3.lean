/- Plain laws about what the program computes. -/
import Derived.Test.YtdmpkjjlnjchkaaGreatPD3
noncomputable section
set_option linter.unusedVariables false
set_option linter.unusedSimpArgs false
set_option linter.unusedSectionVars false
open List renaming getElem_mem->Am,nil_append->CK,take_length->C9
open Nat renaming le_trans->Au,lt_or_ge->AT
namespace Lv.P
open Go (IntKind BinOp UnOp)
def ANh(d:List UInt8)(i:Int):B4×Bool:=
 open Classical in if h:∃x:Int×List UInt8,T5 x.1 x.2/\frB x.1 x.2 <+: d then (⟨h.choose.1,h.choose.2,i+(frB h.choose.1 h.choose.2).length⟩,true) else (⟨0,[],0⟩,false)
def cX(s:List UInt8)(i:Int):B4×Bool:=if 0<=i/\i<=s.length then ANh (s.drop i.toNat) i else (⟨0,[],0⟩,false)
@[simp] theorem ZT(a b:Int):A2C a b=some (if a<b then a else b):=by
 unfold A2C;rw[BA];split<;>rfl
theorem eG(b:List UInt8):(b==[])=decide (b=[]):=by cases b<;>rfl
def frs:Nat->List UInt8->Int->List B4|0,_,_=>[]|f+1,s,i=>if (cX s i).2=true then (cX s i).1::frs f s (cX s i).1.Next else []
def E2(s:List UInt8):List B4:=frs (s.length+1) s 0
theorem Ad0(q:Int):frB q []=[]:=by unfold frB;rw[if_neg (fun h=>by have:=h.2.1;simp at this)]
theorem n0(n:Int)(q:BX):AQz n q=some (frB n (F5 q)):=by
 unfold AQz;rw[cA,AB,eG,BA];split
 .rename_i h;rw[h,Ad0]
 .rw[PN,AB]
theorem ALl(n:Int)(q:BX):ARG n q=some (frB n (F5 q)):=by
 unfold ARG;rw[bh,AB,Vi,AB]
theorem AD1(q:Int)(b:List UInt8):(frB q b).length<=74:=by
 by_cases h:T5 q b
 .exact(iX h).2
 .unfold frB;rw[if_neg h];simp
theorem Agu{l:List Ad}(a:l.length<=1048576):bR l=some l:=Rm (by unfold lim;omega)
theorem AHA{F:(Int×An->AA An)->Int×An->AA An}{w:An}(c:C1 w)
 (step:∀L i (h:i<w.Ak.length) (v:An),v.Ak.length=i->F L ((i:Int),v)=L (w64 ((i:Int)+1),⟨v.Ak++[w.Ak[i]]⟩)) (stop:∀L v,F L ((w.Ak.length:Int),v)=some v):A4 F big (0,⟨[]⟩)=some w:=by
 have e:=c.1;refine C6 (n:=w.Ak.length) (fun i (v:An)=>((i:Int),v)) (fun i v=>v=⟨w.Ak.take i⟩) (fun _ _=>some w) (by omega) ?_ (v:=⟨[]⟩) (by simp);intro L i v a hi g;rcases AT i w.Ak.length with h|h
 .rw[step L i h v (by rw[a];simp;omega),BU h (by omega)]
  grind[List.take_add_one]
 .obtain rfl:i=w.Ak.length:=by omega
  rw[stop,a,C9]
theorem aI{w:An}(a:C1 w):AA3 w=some w:=by
 have hlim:lim=268435456:=rfl;have c:=a.1;have e:=a.2
 grind[AA3,AHA,I0,AIF,BH,A7,AB,B9,AID,BN,AR]
theorem aH{w:An}(a:C1 w):ARC w=some w:=by
 have hlim:lim=268435456:=rfl;have c:=a.1;have e:=a.2
 grind[ARC,AHA,I0,ft,BH,A7,AB,B9,AJB,BN,AR]
theorem AUq{c:AY}(a:DI c):AQw c=some c:=by
 unfold AQw;rw[Agu a.1,AB,aI a.2,AB]
theorem AUp{c:AY}(a:DI c):ABB c=some c:=by
 unfold ABB ARB;have:=a.1;rw[B9 (by unfold lim;omega),AB,aH a.2,AB]
theorem eM{l:List Int}(a:l.length<=1048576):AA8 l=some l:=by
 unfold AA8;rw[B9 (by unfold lim;omega)]
theorem AG9{F:(Int×AD->AA AD)->Int×AD->AA AD}{h:AD}(e:Bp h)
 (step:∀L i (hi:i<h.AI.length) (v:AD),v.AI.length=i->F L ((i:Int),v)=L (w64 ((i:Int)+1),⟨v.AO,v.Now,v.Ap,v.AG,v.AI++[h.AI[i]],v.BC,v.A8⟩)) (stop:∀L v,F L ((h.AI.length:Int),v)=some v):A4 F big (0,⟨h.AO,h.Now,h.Ap,h.AG,[],h.BC,h.A8⟩)=some h:=by
 have g:=e.EG;refine C6 (n:=h.AI.length) (fun i (v:AD)=>((i:Int),v)) (fun i v=>v=⟨h.AO,h.Now,h.Ap,h.AG,h.AI.take i,h.BC,h.A8⟩) (fun _ _=>some h) (by omega) ?_ (v:=⟨h.AO,h.Now,h.Ap,h.AG,[],h.BC,h.A8⟩) (by simp);intro L i v c hi j;rcases AT i h.AI.length with a|a
 .rw[step L i a v (by rw[c];simp;omega),BU a (by omega)]
  grind[List.take_add_one]
 .obtain rfl:i=h.AI.length:=by omega
  rw[stop,c,C9]
theorem H9{h:AD}(a:Bp h):Lf h=some h:=by
 have hlim:lim=268435456:=rfl;have c:=a.Dd;have p1:=a.CS;have p2:=a.todo;have p3:=a.F4;have p4:=a.EG;have e:0+h.AG.length<=lim:=by omega
 have g:0+h.BC.length<=lim:=by omega
 have j:0+h.A8.length<=lim:=by omega
 unfold Lf;simp only[ACe c,AB,B9 e,B9 g,B9 j,AP3,CK,MG,I9,b5,Hd,A4f,A0p,A4g,A3A,Ln,A3y,A1E,A2Y,A0z,A00,A30,A3z,A3B,A32,A2Z,A2b,A2a,A2c,A34,A33,A31,gN,A37,A2d,A2f,A2e,A2g,A39,A38,A36,A1V,A2h,A2i,A4D,A4C,A4B,A4H,A2j,A4G,A4F,A4K,A4J,A4I,A4E,A4A,A35];refine AG9 a ?_ ?_
 .intro L i hi v q;unfold A2k;dsimp only;rw[CC hi,BH,A7 hi,AB,AUq (a.De _ (Am hi)),AB,B9 (by rw[Kc];omega)]
 grind[A2k,A4L,BN,AR]
theorem HF{h:AD}(a:Bp h):AYO h=some h:=by
 have hlim:lim=268435456:=rfl;have c:=a.Dd;have p1:=a.CS;have p2:=a.todo;have p3:=a.F4;have p4:=a.EG;have e:0+h.AG.length<=lim:=by omega
 unfold AYO;simp only[ACd c,AB,B9 e,eM p2,eM p3,Cw,Ja,Jb,Jc,Jd,I9,Je,Jf,MG,J6,I1,N7,PS,WK];refine AG9 a ?_ ?_
 .intro L i hi v g;unfold A3H;dsimp only;rw[CC hi,BH,A7 hi,AB,AUp (a.De _ (Am hi)),AB,B9 (by rw[Kc];omega)]
 grind[A3H,Aj1,BN,AR]
theorem Mi{e:Ae}(a:CW e):AA4 e=some e:=by
 have hlim:lim=268435456:=rfl;have:=a.laid;have g:0+e.Laid.length<=lim:=by omega
 unfold AA4;simp only[H9 a.EL,AB,B9 g,Cw,Ja,Jb,Jc,Jd,I9,Je,Jf,MG,J6,I1,N7,PS,WK,CK]
theorem U1{e:Ae}(a:CW e):ARD e=some e:=by
 have hlim:lim=268435456:=rfl;have:=a.laid;unfold ARD;rw[HF a.EL,AB,B9 (by omega)]
def G0(a:Bu)(s:List UInt8):Bu×Bool:=if Gn a=true/\(a.Data.length:Int)+s.length<=20000 then (⟨a.Data++s,a.Safe⟩,true) else (a,false)
theorem LH{a:Bu}:Gn a=true↔(a.Data.length:Int)<=20000/\0<=a.Safe/\a.Safe<=a.Data.length:=by
 grind[Gn,CY]
theorem Z3{a:Bu}{s:List UInt8}(c:s.length<=4000):ARA a s=some (G0 a s):=by
 grind[On,ARA,Aip,G0,IT,AB,BI,AR,Gn,Ai,B9,BA]
theorem nV{a:Bu}{s:List UInt8}(c:a.Data.length<=1048576)(e:s.length<=4000):ARH a s=some (G0 a s):=by
 grind[On,ARH,A3I,G0,B9,GY,AB,AR,BH,LH,BN]
def JB(e:Ae)(q:BX):Ae×Int:=
 if Ef e=false then (e,21) else if LR q=false then (e,22) else if e.Seq=1000000 then (e,23) else if e.Laid.length=8\/(G0 e.BO.Log (frB (w64 (e.Seq+1)) (F5 q))).2=false then (e,24)
 else (⟨e.BD,⟨(G0 e.BO.Log (frB (w64 (e.Seq+1)) (F5 q))).1,e.BO.Dl,e.BO.Odd⟩,w64 (e.Seq+1),e.Laid++[q]⟩,0)
theorem Z6{e:Ae}(a:CW e)(q:BX):nG e q=some (JB e q):=by
 have hlim:lim=268435456:=rfl;have g:=a.laid;have c:=AD1 (w64 (e.Seq+1)) (F5 q);unfold nG JB;simp only[Mi a,Ga a,zW,n0,Z3 (Au c (by omega):(frB (w64 (e.Seq+1)) (F5 q)).length<=4000),AB,Cw,Ja,Jb,Jc,Jd,I9,Je,Jf,MG,J6,I1,N7,PS,WK,BI,AR];unfold A3G;rw[BI,BH,B9 (by rw[Kc];omega)];cases Ef e with
 |false=>rfl|true=>
  cases LR q with
  |false=>rfl|true=>
   simp only[BH,BZ,beq_iff_eq]
   grind
theorem ALk{e:Ae}(a:CW e)(q:BX):ABC e q=some (JB e q):=by
 have hlim:lim=268435456:=rfl;have g:=a.laid;have c:=AD1 (w64 (e.Seq+1)) (F5 q);unfold ABC JB;simp only[U1 a,Hb a,xy,ALl,nV a.log (Au c (by omega):(frB (w64 (e.Seq+1)) (F5 q)).length<=4000),AB,Cw,Ja,Jb,Jc,Jd,I9,Je,Jf,MG,J6,I1,N7,PS,WK,BI]
 grind[B9,BZ]
theorem Ks{e:Ae}(h:Ef e=true):DR e.BD=true/\KP e.BO=true/\e.Laid.length<=8/\((e.Laid.length:Int)<=e.Seq/\e.Seq<=1000000)/\e.Laid.all LR=true:=by
 grind[Ef,CY]
theorem mu{a:Bu}{s:List UInt8}(c:a.Data.length<=1048576):(G0 a s).1.Data.length<=1048576:=by
 grind[G0]
theorem UD{e:Ae}(a:CW e)(q:BX):CW (JB e q).1:=by
 unfold JB;split
 .exact a
 .rename_i c;rw[Bool.not_eq_false]at c;have g:=Ks c;split
  .exact a
  .split
   .exact a
   .split
    .exact a
    .exact⟨a.EL,mu a.log,a.even,a.odd,by dsimp only;rw[List.length_append,List.length_singleton];omega⟩
theorem AUR(q:BX):Kr q=some q:=rfl
end Lv.P
