/- Plain laws about what the program computes. -/
import Derived.Test.YtdmpkjjlnjchkaaGreatPO5
import Derived.Test.YtdmpkjjlnjchkaaGreatPG5
noncomputable section
set_option linter.unusedVariables false
set_option linter.unusedSimpArgs false
set_option linter.unusedSectionVars false
open List renaming drop_eq_nil_of_le->BM,getElem_mem->Am,length_cons->AH,length_nil->AN
open Nat renaming lt_or_ge->AT
namespace Lv.P
open Lv Go
theorem Ut(s:Bb):∃c,A4W s=some c/\AQe s=some c/\(c = -1\/c=0\/c=1):=by
 obtain⟨r,j,q,_⟩:=HX s 0;obtain⟨a,y,B,_⟩:=HX s 1;unfold A4W AQe A0v BJp Avr;rw[j,q,y,B,AB,AB,AB,AB];cases g:r.2.2<;>cases h:a.2.2<;>simp only[BI,BH,BN,AR,g,h,Bool.not_true,Bool.not_false]
 .grind
 .exact⟨_,rfl,rfl,by decide⟩
 .exact⟨_,rfl,rfl,by decide⟩
 .by_cases e:r.2.1>=a.2.1
  .rw[show decide (r.2.1>=a.2.1)=true from decide_eq_true e,show decide (a.2.1>r.2.1)=false from decide_eq_false (by omega)];exact⟨_,rfl,rfl,by decide⟩
  .rw[show decide (r.2.1>=a.2.1)=false from decide_eq_false e,show decide (a.2.1>r.2.1)=true from decide_eq_true (by omega)];exact⟨_,rfl,rfl,by decide⟩
def aft:Int->List B4->List B4|_,[]=>[]|v,f::l=>if f.Seq<=v then aft v l else if f.Seq=v+1 then f::aft (v+1) l else []
def Ac4(f:B4):Prop:=1<=f.Seq/\f.Seq<=1000000/\f.Body.length<=60
theorem AY3:∀(f:Nat) (s:List UInt8) (i:Int),∀x∈frs f s i,Ac4 x
 |0,s,i,x,c=>by simp[frs]at c|f+1,s,i,x,c=>by
  unfold frs at c;split at c
  .rename_i h;rcases List.mem_cons.1 c with e|e
   .rw[e];unfold cX at h ⊢;split at h
    .rename_i hi;rw[if_pos hi];rcases VA (s.drop i.toNat) i with ⟨q,b,a,y,g⟩|⟨j,g⟩
     .rw[g];exact⟨a.1.1,a.1.2,a.2.2⟩
     .rw[g]at h;simp at h
    .simp at h
   .exact AY3 f s _ x e
  .simp at c
theorem ko(s:List UInt8):∀x∈E2 s,Ac4 x:=AY3 _ _ _
theorem oT:∀(l:List B4) (v:Int),(aft v l).length<=l.length
 | [],v=>by simp[aft]|f::l,v=>by
  unfold aft;have:=oT l v;have:=oT l (v+1)
  grind
theorem ADT:∀(l:List B4) (v:Int),∀x∈aft v l,x∈l
 | [],v,x,a=>by simp[aft]at a|f::l,v,x,a=>by
  unfold aft at a;have c:=ADT l v x;have e:=ADT l (v+1) x
  grind
theorem APd{l:List B4}(E:l.length<=1048576)(y:∀f∈l,Ac4 f){p:Int}(B:0<=p/\p<=1000000):BJT l p=some (aft p l):=by
 have hlim:lim=268435456:=rfl;unfold BJT;refine(C6 (n:=l.length) (fun i (v:Int×List B4)=>(v.1,v.2,(i:Int))) (fun i v=>v.2.length<=i/\0<=v.1/\v.1<=1000000) (fun i v=>some (v.2++aft v.1 (l.drop i))) (by omega) ?_ (v:=(p,[])) (by simpa using B)).trans (by simp);rintro L i ⟨v,acc⟩ ⟨q,a,c⟩ hi j;unfold BJW BIK BIL;dsimp only at q a c ⊢;simp only[dec_lt,AR];rcases AT i l.length with h|h
 .obtain⟨G,H,I⟩:=y _ (Am h);rw[decide_eq_true h,BH,A7 h,AB,AB,AB,AB,DW h,BU h (by omega),BA,Ai (by omega) (by omega)];unfold aft;by_cases e:l[i].Seq<=v
  .rw[if_pos e,if_pos e];exact j (v,acc) ⟨by dsimp only;omega,a,c⟩ h
  .rw[if_neg e,if_neg e];by_cases g:l[i].Seq=v+1
   .rw[if_pos g,show (l[i].Seq-1 != v)=false by rw[bne_eq_false_iff_eq];omega,BN,B9 (by simp only[AH,AN];omega)];have:=j (l[i].Seq,acc++[l[i]]) ⟨by simp;omega,by dsimp only;omega,by dsimp only;omega⟩ h;rw[this,g];simp
   grind[BH]
 .rw[decide_eq_false (by omega),BN,BM h];simp[aft]
theorem AOa{l:List B4}(E:l.length<=1048576)(y:∀f∈l,Ac4 f){p:Int}(B:0<=p/\p<=1000000):AQl l p=some (aft p l):=by
 have hlim:lim=268435456:=rfl;unfold AQl;refine(C6 (n:=l.length) (fun i (v:Int×List B4)=>(v.2,v.1,(i:Int))) (fun i v=>v.2.length<=i/\0<=v.1/\v.1<=1000000) (fun i v=>some (v.2++aft v.1 (l.drop i))) (by omega) ?_ (v:=(p,[])) (by simpa using B)).trans (by simp);rintro L i ⟨v,acc⟩ ⟨q,a,c⟩ hi g;unfold AH4 AH3 BKB;dsimp only at q a c ⊢;simp only[dec_lt,AR];rcases AT i l.length with h|h
 .obtain⟨G,H,I⟩:=y _ (Am h);rw[decide_eq_true h,BH,A7 h,AB,DW h,BU h (by omega),BA,Ai (by omega) (by omega)];unfold aft;by_cases e:l[i].Seq<=v
  .rw[if_pos e,if_pos e];exact g (v,acc) ⟨by dsimp only;omega,a,c⟩ h
  .rw[if_neg e,if_neg e];by_cases j:l[i].Seq=v+1
   .rw[if_pos j,show (l[i].Seq != v+1)=false by rw[bne_eq_false_iff_eq];omega,BN,B9 (by simp only[AH,AN];omega)];have:=g (v+1,acc++[l[i]]) ⟨by simp;omega,by dsimp only;omega,by dsimp only;omega⟩ h;rw[this];simp
   grind[BH]
 .rw[decide_eq_false (by omega),BN,BM h];simp[aft]
def notes:List B4->List BX| []=>[]|f::l=>if (Qz f.Body).2=true then (Qz f.Body).1::notes l else []
theorem mO:∀l,(notes l).length<=l.length
 | []=>by simp[notes]|f::l=>by
  unfold notes;have:=mO l;split<;>simp<;>omega
theorem ACf{l:List B4}(a:l.length<=1048576){G:List UInt8->AA (BX×Bool)}(hG:∀f∈l,G f.Body=some (Qz f.Body)){F:(List BX×Int->AA (List BX))->List BX×Int->AA (List BX)}
 (hF:∀L acc i,F L (acc,i)=br (decide (i<(l.length:Int))) (bd (at? l i) fun x=>bd (G x.Body) fun y=>br (!y.2) (some acc) (gd (acc.length+[y.1].length<=lim) (L (acc++[y.1],w64 (i+1))))) (some acc)) :
 A4 F big ([],0)=some (notes l):=by
 refine(C6 (n:=l.length) (fun i (v:List BX)=>(v,(i:Int))) (fun i v=>v.length<=i) (fun i v=>some (v++notes (l.drop i))) (by omega) ?_ (v:=[]) (by simp)).trans (by simp)
 grind[A7,AB,DW,BU,BZ,notes,B9,lim]
theorem AGG{l:List B4}(e:l.length<=1048576)(a:∀f∈l,f.Body.length<=1048576):BIZ l=some (notes l):=by
 unfold BIZ;exact ACf e (G:=BHA) (fun f c=>jg (a f c)) fun L acc i=>by unfold BI9 BHj;simp only[AR]
theorem AEw{l:List B4}(e:l.length<=1048576)(a:∀f∈l,f.Body.length<=1048576):AHz l=some (notes l):=by
 unfold AHz;exact ACf e (G:=AA1) (fun f c=>AEz (a f c)) fun L acc i=>by unfold Asu ArR;simp only[AR]
theorem ADR{s:Bb}{k:Int}{r:AD×Int×Bool}(h:A0w s k=some r):0<=r.2.1/\r.2.1<=1000000:=by
 unfold A0w at h;rw[Rk,AB,IT,AB,BI]at h;cases a:Gn (Gz s k) with
 |false=>rw[a,BN]at h;cases h;decide
 |true=>
  have j:=LH.1 a;rw[a,BH,B9 j.2]at h;obtain⟨q,g,y,c⟩:=Rq (s:=List.take (Gz s k).Safe.toNat (Gz s k).Data) (by rw[List.length_take];omega);rw[g,AB]at h;cases h;cases e:q.2.2 with
  |false=>rw[c.no e];decide|true=>
   have B:=(c.yes e).2.2
   grind[IS,CY,A2u,A02,BA,AR]
def V7(s:Bb)(n:Int)(q:AD×Int×Bool):AD×Int×Bool:=
 if KP s=true/\¬n<0 then ((JZ (notes (aft q.2.1 (E2 s.Log.Data))) q.1).1,q.2.1+(notes (aft q.2.1 (E2 s.Log.Data))).length,true) else (MI,0,false)
structure AGi(s:Bb)(n:Int)(q:AD×Int×Bool):Prop where
 sn:A4W s=some n
 im:AQe s=some n
 sr:A0w s n=some q
 ir:AAy s n=some q
 fit:Bp q.1
 lo:0<=q.2.1
 hi:q.2.1<=1000000
theorem da(s:Bb):∃n q,AGi s n q:=by
 obtain⟨n,c,e,_⟩:=Ut s;obtain⟨q,q1,g,h⟩:=HX s n;obtain⟨a,b⟩:=ADR q1;exact⟨n,q,c,e,q1,g,h,a,b⟩
theorem recovered{s:Bb}(j:s.Log.Data.length<=1048576){n:Int}{q:AD×Int×Bool}(h:AGi s n q):BH7 s=some (V7 s n q)/\fq s=some (V7 s n q)/\Bp (V7 s n q).1:=by
 have E:=Mj s.Log.Data;have a:=ko s.Log.Data;have y:=oT (E2 s.Log.Data) q.2.1;have I:=mO (aft q.2.1 (E2 s.Log.Data));have e:∀f∈aft q.2.1 (E2 s.Log.Data),f.Body.length<=1048576:=fun f B=>by have:=(a f (ADT _ _ f B)).2.2;omega
 have H:=h.lo;have G:=h.hi;unfold BH7 fq BHH BKU V7;simp only[h.sn,h.im,h.sr,h.ir,AB,WD,ik,AR,Z5 j,ZO j];rw[APd (by omega) a ⟨h.lo,h.hi⟩,AOa (by omega) a ⟨h.lo,h.hi⟩,AB,AB,AGG (by omega) e,AEw (by omega) e,AB,AB,db h.fit (by omega),Vh h.fit (by omega),AB,Ai (by omega) (by omega)];cases e:KP s with
 |false=>exact⟨rfl,rfl,NK⟩|true=>
  by_cases c:n<0
  .rw[decide_eq_true c,if_neg (fun g=>g.2 c)];exact⟨rfl,rfl,NK⟩
  .rw[decide_eq_false c,if_pos ⟨rfl,c⟩];exact⟨rfl,rfl,(Tz _ h.fit).1⟩
def used:Int->Int->List B4->Int|_,e,[]=>e|v,e,f::l=>if f.Seq<=v then used v f.Next l else if f.Seq=v+1/\(Qz f.Body).2=true then used (v+1) f.Next l else e
def zl(t:Int):Int->Int->List B4->Int|_,e,[]=>e|v,e,f::l=>if f.Seq<=v then zl t v f.Next l else if f.Seq=v+1/\f.Seq<=t then zl t (v+1) f.Next l else e
theorem zm:∀(l:List B4) (v e:Int),zl (v+(notes (aft v l)).length) v e l=used v e l
 | [],v,e=>rfl|f::l,v,e=>by
  unfold zl used;unfold aft;by_cases a:f.Seq<=v
  .rw[if_pos a,if_pos a,if_pos a,zm l]
  .rw[if_neg a,if_neg a,if_neg a];by_cases c:f.Seq=v+1
   .rw[if_pos c];unfold notes;by_cases h:(Qz f.Body).2=true
    .rw[if_pos h,AH,if_pos (show _/\_ from ⟨c,by omega⟩),if_pos (show _/\(Qz f.Body).2=true from ⟨c,h⟩),<-zm l (v+1)];congr 1;omega
    .grind
   .rw[if_neg c,if_neg (fun g=>c g.1),if_neg (fun g=>c g.1)]
def jt(s:Bb)(n:Int)(q:AD×Int×Bool):Int:=if KP s=true/\¬n<0 then used q.2.1 0 (E2 s.Log.Data) else 0
theorem me{s:Bb}(Q:s.Log.Data.length<=1048576){n:Int}{q:AD×Int×Bool}(h:AGi s n q):BJB s=some (jt s n q):=by
 have O:=Mj s.Log.Data;have B:=ko s.Log.Data;have G:=h.lo;have E:=h.hi;unfold BJB BIe jt;simp only[h.sn,h.sr,AB,WD,AR,Z5 Q];have key:A4 (BIg (E2 s.Log.Data)) big (q.2.1,0,0)=some (used q.2.1 0 (E2 s.Log.Data)):=by
  generalize E2 s.Log.Data=l at *;refine(C6 (n:=l.length) (fun i (v:Int×Int)=>(v.1,v.2,(i:Int))) (fun i v=>0<=v.1/\v.1<=1000000) (fun i v=>some (used v.1 v.2 (l.drop i))) (by omega) ?_ (v:=(q.2.1,0)) ⟨G,E⟩).trans (by simp);rintro L i ⟨v,e⟩ ⟨a,c⟩ hi J;unfold BIg BIf BJf;dsimp only at a c ⊢;simp only[dec_lt,AR];rcases AT i l.length with h|h
  .obtain⟨X,Y,Z⟩:=B _ (Am h);rw[decide_eq_true h,BH];simp only[A7 h,AB];rw[DW h,BU h (by omega),BA,Ai (by omega) (by omega),jg (by omega)];unfold used;by_cases H:l[i].Seq<=v
   .rw[if_pos H,if_neg (by omega),show (l[i].Seq==v+1)=false by rw[beq_eq_false_iff_ne];omega,BN];exact J (v,l[i].Next) ⟨a,c⟩ h
   .rw[if_neg H];by_cases I:l[i].Seq=v+1
    .rw[if_neg (by omega),show (l[i].Seq==v+1)=true by rw[beq_iff_eq];omega,BH,AB,BI,BZ];by_cases j:(Qz l[i].Body).2=true
     .rw[if_pos j,if_pos ⟨I,j⟩];exact J (v+1,l[i].Next) ⟨by dsimp only;omega,by dsimp only;omega⟩ h
     .rw[if_neg j,if_neg (fun g=>j g.2)]
    .rw[if_pos (by omega),if_neg (fun g=>I g.1)]
  .rw[decide_eq_false (by omega),BN,BM h];simp[used]
 rw[key];cases S:KP s with
 |false=>rfl|true=>
  by_cases y:n<0
  .rw[decide_eq_true y,if_neg (fun g=>g.2 y)];rfl
  .rw[decide_eq_false y,if_pos ⟨rfl,y⟩];rfl
theorem aW{s:Bb}(O:s.Log.Data.length<=1048576){n:Int}{q:AD×Int×Bool}(h:AGi s n q):AQ7 s=some (jt s n q):=by
 have Y:=Mj s.Log.Data;have y:=ko s.Log.Data;have E:=h.lo;have B:=h.hi;unfold AQ7 jt;simp only[(recovered O h).2.1,h.im,h.ir,AB,Cw,J6,ZO O];by_cases j:KP s=true/\¬n<0
 .have G:(V7 s n q).2=(q.2.1+(notes (aft q.2.1 (E2 s.Log.Data))).length,true):=by unfold V7;rw[if_pos j]
  rw[G,if_pos j];dsimp only;rw[BI,BH,<-zm];have Z:=mO (aft q.2.1 (E2 s.Log.Data));have X:=oT (E2 s.Log.Data) q.2.1;have S:(V7 s n q).2.1=q.2.1+(notes (aft q.2.1 (E2 s.Log.Data))).length:=by rw[G]
  generalize q.2.1+((notes (aft q.2.1 (E2 s.Log.Data))).length:Int)=t at *;generalize V7 s n q=r at *;generalize E2 s.Log.Data=l at *;refine(C6 (n:=l.length) (fun i (v:Int×Int)=>(v.1,v.2,(i:Int))) (fun i v=>0<=v.1/\v.1<=1000000) (fun i v=>some (zl t v.1 v.2 (l.drop i))) (by omega) ?_ (v:=(q.2.1,0)) ⟨E,B⟩).trans (by simp);rintro L i ⟨v,e⟩ ⟨a,c⟩ hi Q;unfold Ajt AmG BKV BKW;dsimp only at a c ⊢;simp only[dec_lt,AR];rcases AT i l.length with h|h
  .obtain⟨o1,o2,o3⟩:=y _ (Am h);rw[decide_eq_true h,BH];simp only[A7 h,AB];rw[DW h,BU h (by omega),BA,Ai (by omega) (by omega),S];unfold zl;by_cases H:l[i].Seq<=v
   .rw[if_pos H,if_neg (by omega)];exact Q (v,l[i].Next) ⟨a,c⟩ h
   .rw[if_neg H,if_pos (by omega)];by_cases I:l[i].Seq=v+1
    .rw[show (l[i].Seq != v+1)=false by rw[bne_eq_false_iff_eq];omega,BN,BA];by_cases J:l[i].Seq<=t
     .rw[if_neg (by omega),if_pos ⟨I,J⟩];exact Q (v+1,l[i].Next) ⟨by dsimp only;omega,by dsimp only;omega⟩ h
     .rw[if_pos (by omega),if_neg (fun g=>J g.2)]
    .rw[show (l[i].Seq != v+1)=true by rw[bne_iff_ne];omega,BH,BH,if_neg (fun g=>I g.1)]
  .rw[decide_eq_false (by omega),BN,BM h];simp[zl]
 .rw[show V7 s n q=(MI,0,false) by unfold V7;rw[if_neg j],if_neg j];rfl
def zj(a:Bu)(p:Int):Bu×Bool:=if Gn a=true/\inB p 0 a.Data.length=true then (⟨a.Data.take p.toNat,if a.Safe<p then a.Safe else p⟩,true) else (a,false)
theorem AXG(a:Bu)(p:Int):BII a p=some (zj a p):=by
 grind[BII,BId,zj,IT,AB,Gv,AR,Gn,inB,BH,BN,B9,ZT]
theorem AVI(a:Bu)(p:Int):Pw a p=some (zj a p):=by
 grind[Pw,A3F,zj,GY,AB,Fs,AR,Gn,inB,BH,BN,B9]
theorem AXa(a:Bu)(p:Int):(zj a p).1.Data.length<=a.Data.length:=by grind[zj]
def m0(s:Bb):Bool:=(s.Log.Safe==(s.Log.Data.length:Int))&&((s.Dl.Safe==(s.Dl.Data.length:Int))&&(s.Odd.Safe==(s.Odd.Data.length:Int)))
theorem AC6(s:Bb):nI s=some (m0 s):=by
 unfold nI s8 s6 m0;simp only[AB,AR,Cv]
theorem AVA(s:Bb):sU s=some (m0 s):=by
 unfold sU Aq1 m0;simp only[AR,Cv]
def Agn:Bb:=⟨⟨[],0⟩,⟨[],0⟩,⟨[],0⟩⟩
def AUX:Ae:=⟨MI,Agn,0,[]⟩
theorem oD:CW AUX:=⟨NK,by decide,by decide,by decide,by decide⟩
def my(s:Bb)(n:Int)(q:AD×Int×Bool):Ae×Bool:=
 if (V7 s n q).2.2=true/\m0 s=true then (⟨(V7 s n q).1,⟨oA (zj s.Log (jt s n q)).1,s.Dl,s.Odd⟩,(V7 s n q).2.1,[]⟩,true) else (AUX,false)
theorem AfY{s:Bb}(a:s.Log.Data.length<=1048576)(j:s.Dl.Data.length<=1048576)(y:s.Odd.Data.length<=1048576){n:Int}{q:AD×Int×Bool}(h:AGi s n q):BJv s=some (my s n q)/\sW s=some (my s n q)/\CW (my s n q).1:=by
 obtain⟨c,e,g⟩:=recovered a h;have B:=AXa s.Log (jt s n q);unfold BJv sW BIU Aqq my;simp only[c,e,AB,AC6,AVA,AR,me a h,aW a h,AXG,AVI,N7,aw,lj];cases (V7 s n q).2.2 with
 |false=>exact⟨rfl,rfl,oD⟩|true=>
  cases m0 s with
  |false=>exact⟨rfl,rfl,oD⟩|true=>exact⟨rfl,rfl,by rw[if_pos ⟨rfl,rfl⟩];exact⟨g,by dsimp only;rw[Q7];omega,j,y,by simp⟩⟩
def yE(a:Bu)(p:Int):Int:=if p<0 then a.Safe else if p<a.Data.length-a.Safe then a.Safe+p else a.Data.length
def UF(a:Bu)(p:Int):Bu:=if Gn a=true then ⟨a.Data.take (yE a p).toNat,yE a p⟩ else a
theorem AgA(p:Int){m:Int}(a:0<=m):ABc p 0 m=some (if p<0 then 0 else if p<m then p else m):=by
 unfold ABc;congr 1
 grind
theorem AVC(a:Bu)(p:Int):AI3 a p=some (UF a p):=by
 grind[AI3,UF,GY,AB,BI,LH,BH,Ai,AgA,yE,B9]
def Np(s:Bb)(l:List Int):Bb:=⟨UF s.Log (l.getD 0 0),UF s.Dl (l.getD 1 0),UF s.Odd (l.getD 2 0)⟩
theorem AhF(l:List Int):List.take (List.replicate (Int.toNat 3) 0).length l++List.drop l.length (List.replicate (Int.toNat 3) 0)=[l.getD 0 0,l.getD 1 0,l.getD 2 0]:=by
 match l with
 | []=>rfl| [a]=>rfl| [a,b]=>rfl|a::b::c::m=>simp[List.getD]
theorem ZN(s:Bb)(l:List Int):AI4 s l=some (Np s l):=by
 unfold AI4 Np;rw[AhF,show at? [l.getD 0 0,l.getD 1 0,l.getD 2 0] 0=some (l.getD 0 0) from rfl,show at? [l.getD 0 0,l.getD 1 0,l.getD 2 0] 1=some (l.getD 1 0) from rfl,show at? [l.getD 0 0,l.getD 1 0,l.getD 2 0] 2=some (l.getD 2 0) from rfl];simp only[AB,AVC]
end Lv.P
