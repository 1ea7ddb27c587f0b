/- Plain laws about what the program computes. -/
import Derived.Test.YtnjoipcemhflkaaGreatPOb
import Derived.Test.YtnjoipcemhflkaaGreatPGb
noncomputable section
set_option linter.unusedVariables false
set_option linter.unusedSimpArgs false
set_option linter.unusedSectionVars false
open Bool renaming not_true->Bs
open List renaming drop_eq_nil_of_le->BA,getElem_mem->Ah,length_cons->AI,length_nil->AP
open Nat renaming le_trans->Av,lt_or_ge->AZ
namespace Lv.P
open Lv Go
theorem QY(s:BZ):∃c,bG s=some c/\AKI s=some c/\(c = -1\/c=0\/c=1):=by
 obtain⟨r,h,j,_⟩:=GL s 0;obtain⟨r',q,y,_⟩:=GL s 1;unfold bG AKI Abs Adn AcJ;rw[h,j,q,y,AB,AB,AB,AB];cases e:r.2.2<;>cases g:r'.2.2<;>simp only[BK,BP,Bb,AV,e,g,Bs,Bool.not_false]
 .grind
 .exact⟨_,rfl,rfl,by decide⟩
 .exact⟨_,rfl,rfl,by decide⟩
 .by_cases a:r.2.1>=r'.2.1
  .rw[show decide (r.2.1>=r'.2.1)=true from decide_eq_true a,show decide (r'.2.1>r.2.1)=false from decide_eq_false (by omega)];exact⟨_,rfl,rfl,by decide⟩
  .rw[show decide (r.2.1>=r'.2.1)=false from decide_eq_false a,show decide (r'.2.1>r.2.1)=true from decide_eq_true (by omega)];exact⟨_,rfl,rfl,by decide⟩
def YG(s:BZ)(k:Int)(a:Bp):BZ:=if (k.tmod 2==0)=true then ⟨s.Log,a,s.Odd⟩ else ⟨s.Log,s.DW,a⟩
theorem YZ(s:BZ)(k:Int)(a:Bp):AK0 s k a=some (YG s k a):=by unfold AK0 YG;rw[Bi,AV,AV];split<;>rfl
theorem xt(s:BZ)(k:Int)(a:Bp):gp s k a=some (YG s k a):=by unfold gp YG;rw[Bi,AV,AV];split<;>rfl
theorem aN(s:BZ)(l:Bp)(k:Int):YG ⟨l,s.DW,s.Odd⟩ k (E7 s k)=⟨l,s.DW,s.Odd⟩:=by unfold YG E7;split<;>rfl
def TS(a:Bp)(p:Int):Bp×Bool:=if Fz a=true/\inB p 0 a.Data.length=true/\a.Safe=a.Data.length then (⟨a.Data.drop p.toNat,(a.Data.length:Int)-p⟩,true) else (a,false)
theorem tT(a:Bp)(p:Int):AKz a p=some (TS a p):=by
 grind[AKz,AcU,TS,HH,AB,Gk,AV,Bi,Fz,inB,B8,A2]
theorem ANe(a:Bp)(p:Int):Abo a p=some (TS a p):=by
 grind[Abo,yl,TS,GN,AB,Fb,AV,Bi,Fz,inB,B8,A2]
theorem APS{a:Bp}{p:Int}(h:(TS a p).2=false):(TS a p).1=a:=by unfold TS at h ⊢;grind
theorem tQ(a:Bp)(p:Int):(TS a p).1.Data.length<=a.Data.length:=by unfold TS;split<;>simp
theorem z8{a:Bp}{s:List UInt8}(h:(G7 a s).2=false):(G7 a s).1=a:=by unfold G7 at h ⊢;grind
theorem n7{e:Ap}(a:Cc e)(k:Int):(E7 e.BH k).Data.length<=1048576:=by unfold E7;split;exact a.even;exact a.odd
theorem yo{e:Ap}(c:Cc e){k:Int}{a:Bp}(h:a.Data.length<=1048576):Cc ⟨e.BO,YG e.BH k a,e.Seq,e.Laid⟩:=by
 unfold YG;split<;>exact⟨c.EY,c.log,by first|exact h|exact c.even,by first|exact h|exact c.odd,c.laid⟩
theorem UZ{e:Ap}(a:Cc e)(p:Int):∃r,AQs e p=some r/\Abn e p=some r/\Cc r.1:=by
 obtain⟨n,B,E,J⟩:=QY e.BH;obtain⟨r,G,H,_⟩:=GL e.BH n;unfold AQs Abn;rw[I3 a,Nl a,E,HQ a,IV a,Gk,Xs,show w64 (4-1)=3 from rfl];simp only[AB,AV];cases I:D7 e with
 |false=>exact⟨(e,false),rfl,rfl,a⟩|true=>
 simp only[Bs,Bb];by_cases j:(e.Laid.length:Int)>0
 .rw[decide_eq_true j];exact⟨(e,false),rfl,rfl,a⟩
 rw[decide_eq_false j,Bb,Bb];cases hi:inB p 0 3 with
 |false=>exact⟨(e,false),rfl,rfl,a⟩|true=>
 simp only[Bs,Bb];unfold Abu fw Abl gA;rw[Bb,B,AB];by_cases q:n<0
 .rw[decide_eq_true q,BP,BP];exact⟨(e,false),rfl,rfl,a⟩
 have g:=n7 a (w64 (1-n));have c:=fun s=>bX (s:=s) g
 simp only[decide_eq_false q,Bb,JF,Og,AB,YZ,xt,AV,Lu a.EY,O9 a.EY,TU (Av (JP e.BO e.Seq) (by omega)),c _ (Av (JP e.BO e.Seq) (by omega)),UJ,Zy,G,H,YY a.log,xn a.log,tT,ANe,I3 a,BK,BP];have y:∀k,YG e.BH k (E7 e.BH k)=e.BH:=fun k=>aN e.BH e.BH.Log k
 cases p==0 with
 |true=>exact⟨_,rfl,rfl,yo a (by simp)⟩|false=>
 rw[Bb,Bb];cases p==1 with
 |true=>
  rw[BP,BP];cases h:(G7 (E7 e.BH (w64 (1-n))) (HU e.BO e.Seq)).2 with
  |true=>exact⟨_,rfl,rfl,yo a (ak g)⟩|false=>exact⟨(e,false),rfl,by rw[z8 h,y],a⟩
 |false=>
 rw[Bb,Bb];cases p==2 with
 |true=>exact⟨_,rfl,rfl,yo a (by rw[OG];exact g)⟩|false=>
 rw[Bb,Bb];cases h:(TS e.BH.Log (AE5 r.2.1 0 (Dx e.BH.Log.Data))).2 with
 |true=>exact⟨_,rfl,by rw[aN],by dsimp only;rw[aN];exact⟨a.EY,Av (tQ _ _) a.log,a.even,a.odd,a.laid⟩⟩|false=>exact⟨(e,false),rfl,by rw[APS h],a⟩
def aft:Int->List Br->List Br|_,[]=>[]|v,f::l=>if f.Seq<=v then aft v l else if f.Seq=v+1 then f::aft (v+1) l else []
def AVk(f:Br):Prop:=1<=f.Seq/\f.Seq<=1000000/\f.Body.length<=60
theorem ARE:∀(f:Nat) (s:List UInt8) (i:Int),∀x∈frs f s i,AVk x
 |0,s,i,x,c=>by simp[frs]at c|f+1,s,i,x,c=>by
  unfold frs at c;split at c
  .rename_i h;rcases List.mem_cons.1 c with e|e
   .rw[e];unfold J5 at h ⊢;split at h
    .rename_i hi;rw[AW hi];rcases Ny (s.drop i.toNat) i with ⟨q,b,a,y,g⟩|⟨j,g⟩
     .rw[g];exact⟨a.1.1,a.1.2,a.2.2⟩
     .rw[g]at h;simp at h
    .simp at h
   .exact ARE f s _ x e
  .simp at c
theorem ZJ(s:List UInt8):∀x∈Dx s,AVk x:=ARE _ _ _
theorem cY:∀(l:List Br) (v:Int),(aft v l).length<=l.length
 | [],v=>by simp[aft]|f::l,v=>by
  unfold aft;have:=cY l v;have:=cY l (v+1)
  grind
theorem tz:∀(l:List Br) (v:Int),∀x∈aft v l,x∈l
 | [],v,x,a=>by simp[aft]at a|f::l,v,x,a=>by
  unfold aft at a;have c:=tz l v x;have e:=tz l (v+1) x
  grind
theorem AIs{l:List Br}(E:l.length<=1048576)(y:∀f∈l,AVk f){p:Int}(B:0<=p/\p<=1000000):AK2 l p=some (aft p l):=by
 have hlim:lim=268435456:=rfl;unfold AK2;refine(C3 (n:=l.length) (fun i (v:Int×List Br)=>(v.1,v.2,(i:Int))) (fun i v=>v.2.length<=i/\0<=v.1/\v.1<=1000000) (fun i v=>some (v.2++aft v.1 (l.drop i))) (by omega) ?_ (v:=(p,[])) (by simpa using B)).trans (by simp);rintro L i ⟨v,acc⟩ ⟨q,a,c⟩ hi j;unfold AgW AeU AeV;dsimp only at q a c ⊢;simp only[dec_lt,AV];rcases AZ i l.length with h|h
 .obtain⟨G,H,I⟩:=y _ (Ah h);rw[decide_eq_true h,BP,BG h,AB,AB,AB,AB,Dg h,Bn h (by omega),BQ,A2 (by omega) (by omega)];unfold aft;by_cases e:l[i].Seq<=v
  .rw[AW e,AW e];exact j (v,acc) ⟨by dsimp only;omega,a,c⟩ h
  .rw[AR e,AR e];by_cases g:l[i].Seq=v+1
   .rw[AW g,show (l[i].Seq-1 != v)=false by rw[bne_eq_false_iff_eq];omega,Bb,B8 (by simp only[AI,AP];omega)];have:=j (l[i].Seq,acc++[l[i]]) ⟨by simp;omega,by dsimp only;omega,by dsimp only;omega⟩ h;rw[this,g];simp
   grind[BP]
 .rw[decide_eq_false (by omega),Bb,BA h];simp[aft]
theorem AHi{l:List Br}(E:l.length<=1048576)(y:∀f∈l,AVk f){p:Int}(B:0<=p/\p<=1000000):rI l p=some (aft p l):=by
 have hlim:lim=268435456:=rfl;unfold rI;refine(C3 (n:=l.length) (fun i (v:Int×List Br)=>(v.2,v.1,(i:Int))) (fun i v=>v.2.length<=i/\0<=v.1/\v.1<=1000000) (fun i v=>some (v.2++aft v.1 (l.drop i))) (by omega) ?_ (v:=(p,[])) (by simpa using B)).trans (by simp);rintro L i ⟨v,acc⟩ ⟨q,a,c⟩ hi g;unfold AB6 AB5 Adf;dsimp only at q a c ⊢;simp only[dec_lt,AV];rcases AZ i l.length with h|h
 .obtain⟨G,H,I⟩:=y _ (Ah h);rw[decide_eq_true h,BP,BG h,AB,Dg h,Bn h (by omega),BQ,A2 (by omega) (by omega)];unfold aft;by_cases e:l[i].Seq<=v
  .rw[AW e,AW e];exact g (v,acc) ⟨by dsimp only;omega,a,c⟩ h
  .rw[AR e,AR e];by_cases j:l[i].Seq=v+1
   .rw[AW j,show (l[i].Seq != v+1)=false by rw[bne_eq_false_iff_eq];omega,Bb,B8 (by simp only[AI,AP];omega)];have:=g (v+1,acc++[l[i]]) ⟨by simp;omega,by dsimp only;omega,by dsimp only;omega⟩ h;rw[this];simp
   grind[BP]
 .rw[decide_eq_false (by omega),Bb,BA h];simp[aft]
def notes:List Br->List B3| []=>[]|f::l=>if (M3 f.Body).2=true then (M3 f.Body).1::notes l else []
theorem aI:∀l,(notes l).length<=l.length
 | []=>by simp[notes]|f::l=>by
  unfold notes;have:=aI l;split<;>simp<;>omega
theorem se{l:List Br}(a:l.length<=1048576){G:List UInt8->AA (B3×Bool)}(hG:∀f∈l,G f.Body=some (M3 f.Body)){F:(List B3×Int->AA (List B3))->List B3×Int->AA (List B3)}
 (hF:∀L acc i,F L (acc,i)=br (decide (i<(l.length:Int))) (bd (at? l i) fun x=>bd (G x.Body) fun y=>br (!y.2) (some acc) (gd (acc.length+[y.1].length<=lim) (L (acc++[y.1],w64 (i+1))))) (some acc)) :
 BD F big ([],0)=some (notes l):=by
 refine(C3 (n:=l.length) (fun i (v:List B3)=>(v,(i:Int))) (fun i v=>v.length<=i) (fun i v=>some (v++notes (l.drop i))) (by omega) ?_ (v:=[]) (by simp)).trans (by simp)
 grind[BG,AB,Dg,Bn,Bi,notes,B8,lim]
theorem zH{l:List Br}(e:l.length<=1048576)(a:∀f∈l,f.Body.length<=1048576):qH l=some (notes l):=by
 unfold qH;exact se e (G:=AJz) (fun f c=>Ya (a f c)) fun L acc i=>by unfold Afi Pl;simp only[AV]
theorem xp{l:List Br}(e:l.length<=1048576)(a:∀f∈l,f.Body.length<=1048576):gK l=some (notes l):=by
 unfold gK;exact se e (G:=ABD) (fun f c=>xu (a f c)) fun L acc i=>by unfold SO Wi;simp only[AV]
theorem tx{s:BZ}{k:Int}{r:AE×Int×Bool}(h:ABn s k=some r):0<=r.2.1/\r.2.1<=1000000:=by
 unfold ABn at h;rw[JF,AB,HH,AB,BK]at h;cases a:Fz (E7 s k) with
 |false=>rw[a,Bb]at h;cases h;decide
 |true=>
  have j:=IT.1 a;rw[a,BP,B8 j.2]at h;obtain⟨q,g,y,c⟩:=Lq (s:=List.take (E7 s k).Safe.toNat (E7 s k).Data) (by rw[List.length_take];omega);rw[g,AB]at h;cases h;cases e:q.2.2 with
  |false=>rw[c.no e];decide|true=>
   have B:=(c.yes e).2.2
   grind[HU,CA,bE,AcC,BQ,AV]
def Lh(s:BZ)(n:Int)(q:AE×Int×Bool):AE×Int×Bool:=
 if II s=true/\¬n<0 then ((Ge (notes (aft q.2.1 (Dx s.Log.Data))) q.1).1,q.2.1+(notes (aft q.2.1 (Dx s.Log.Data))).length,true) else (K5,0,false)
structure Vz(s:BZ)(n:Int)(q:AE×Int×Bool):Prop where
 sn:bG s=some n
 im:AKI s=some n
 sr:ABn s n=some q
 ir:AKH s n=some q
 fit:Bt q.1
 lo:0<=q.2.1
 hi:q.2.1<=1000000
theorem yw(s:BZ):∃n q,Vz s n q:=by
 obtain⟨n,c,e,_⟩:=QY s;obtain⟨q,q1,g,h⟩:=GL s n;obtain⟨a,b⟩:=tx q1;exact⟨n,q,c,e,q1,g,h,a,b⟩
theorem recovered{s:BZ}(j:s.Log.Data.length<=1048576){n:Int}{q:AE×Int×Bool}(h:Vz s n q):AK3 s=some (Lh s n q)/\AK8 s=some (Lh s n q)/\Bt (Lh s n q).1:=by
 have E:=J6 s.Log.Data;have a:=ZJ s.Log.Data;have y:=cY (Dx s.Log.Data) q.2.1;have I:=aI (aft q.2.1 (Dx s.Log.Data));have e:∀f∈aft q.2.1 (Dx s.Log.Data),f.Body.length<=1048576:=fun f B=>by have:=(a f (tz _ _ f B)).2.2;omega
 have H:=h.lo;have G:=h.hi;unfold AK3 AK8 AeW XI Lh;simp only[h.sn,h.im,h.sr,h.ir,AB,RU,Xo,AV,TX j,Od j];rw[AIs (by omega) a ⟨h.lo,h.hi⟩,AHi (by omega) a ⟨h.lo,h.hi⟩,AB,AB,zH (by omega) e,xp (by omega) e,AB,AB,RQ h.fit (by omega),Qz h.fit (by omega),AB,A2 (by omega) (by omega)];cases e:II s with
 |false=>exact⟨rfl,rfl,Lp⟩|true=>
  by_cases c:n<0
  .rw[decide_eq_true c,AR (fun g=>g.2 c)];exact⟨rfl,rfl,Lp⟩
  .rw[decide_eq_false c,AW ⟨rfl,c⟩];exact⟨rfl,rfl,(KL _ h.fit).1⟩
def used:Int->Int->List Br->Int|_,e,[]=>e|v,e,f::l=>if f.Seq<=v then used v f.Next l else if f.Seq=v+1/\(M3 f.Body).2=true then used (v+1) f.Next l else e
def oY(t:Int):Int->Int->List Br->Int|_,e,[]=>e|v,e,f::l=>if f.Seq<=v then oY t v f.Next l else if f.Seq=v+1/\f.Seq<=t then oY t (v+1) f.Next l else e
theorem oZ:∀(l:List Br) (v e:Int),oY (v+(notes (aft v l)).length) v e l=used v e l
 | [],v,e=>rfl|f::l,v,e=>by
  unfold oY used;unfold aft;by_cases a:f.Seq<=v
  .rw[AW a,AW a,AW a,oZ l]
  .rw[AR a,AR a,AR a];by_cases c:f.Seq=v+1
   .rw[AW c];unfold notes;by_cases h:(M3 f.Body).2=true
    .rw[AW h,AI,AW (show _/\_ from ⟨c,by omega⟩),AW (show _/\(M3 f.Body).2=true from ⟨c,h⟩),<-oZ l (v+1)];congr 1;omega
    .grind
   .rw[AR c,AR (fun g=>c g.1),AR (fun g=>c g.1)]
def MT(s:BZ)(n:Int)(q:AE×Int×Bool):Int:=if II s=true/\¬n<0 then used q.2.1 0 (Dx s.Log.Data) else 0
theorem APd{s:BZ}(Q:s.Log.Data.length<=1048576){n:Int}{q:AE×Int×Bool}(h:Vz s n q):bM s=some (MT s n q):=by
 have O:=J6 s.Log.Data;have B:=ZJ s.Log.Data;have G:=h.lo;have E:=h.hi;unfold bM AeX MT;simp only[h.sn,h.sr,AB,RU,AV,TX Q];have key:BD (AeZ (Dx s.Log.Data)) big (q.2.1,0,0)=some (used q.2.1 0 (Dx s.Log.Data)):=by
  generalize Dx s.Log.Data=l at *;refine(C3 (n:=l.length) (fun i (v:Int×Int)=>(v.1,v.2,(i:Int))) (fun i v=>0<=v.1/\v.1<=1000000) (fun i v=>some (used v.1 v.2 (l.drop i))) (by omega) ?_ (v:=(q.2.1,0)) ⟨G,E⟩).trans (by simp);rintro L i ⟨v,e⟩ ⟨a,c⟩ hi J;unfold AeZ AeY AgX;dsimp only at a c ⊢;simp only[dec_lt,AV];rcases AZ i l.length with h|h
  .obtain⟨X,Y,Z⟩:=B _ (Ah h);rw[decide_eq_true h,BP];simp only[BG h,AB];rw[Dg h,Bn h (by omega),BQ,A2 (by omega) (by omega),Ya (by omega)];unfold used;by_cases H:l[i].Seq<=v
   .rw[AW H,AR (by omega),show (l[i].Seq==v+1)=false by rw[beq_eq_false_iff_ne];omega,Bb];exact J (v,l[i].Next) ⟨a,c⟩ h
   .rw[AR H];by_cases I:l[i].Seq=v+1
    .rw[AR (by omega),show (l[i].Seq==v+1)=true by rw[beq_iff_eq];omega,BP,AB,BK,Bi];by_cases j:(M3 l[i].Body).2=true
     .rw[AW j,AW ⟨I,j⟩];exact J (v+1,l[i].Next) ⟨by dsimp only;omega,by dsimp only;omega⟩ h
     .rw[AR j,AR (fun g=>j g.2)]
    .rw[AW (by omega),AR (fun g=>I g.1)]
  .rw[decide_eq_false (by omega),Bb,BA h];simp[used]
 rw[key];cases S:II s with
 |false=>rfl|true=>
  by_cases y:n<0
  .rw[decide_eq_true y,AR (fun g=>g.2 y)];rfl
  .rw[decide_eq_false y,AW ⟨rfl,y⟩];rfl
theorem sO{s:BZ}(O:s.Log.Data.length<=1048576){n:Int}{q:AE×Int×Bool}(h:Vz s n q):ra s=some (MT s n q):=by
 have Y:=J6 s.Log.Data;have y:=ZJ s.Log.Data;have E:=h.lo;have B:=h.hi;unfold ra MT;simp only[(recovered O h).2.1,h.im,h.ir,AB,Ce,IJ,Od O];by_cases j:II s=true/\¬n<0
 .have G:(Lh s n q).2=(q.2.1+(notes (aft q.2.1 (Dx s.Log.Data))).length,true):=by unfold Lh;rw[AW j]
  rw[G,AW j];dsimp only;rw[BK,BP,<-oZ];have Z:=aI (aft q.2.1 (Dx s.Log.Data));have X:=cY (Dx s.Log.Data) q.2.1;have S:(Lh s n q).2.1=q.2.1+(notes (aft q.2.1 (Dx s.Log.Data))).length:=by rw[G]
  generalize q.2.1+((notes (aft q.2.1 (Dx s.Log.Data))).length:Int)=t at *;generalize Lh s n q=r at *;generalize Dx s.Log.Data=l at *;refine(C3 (n:=l.length) (fun i (v:Int×Int)=>(v.1,v.2,(i:Int))) (fun i v=>0<=v.1/\v.1<=1000000) (fun i v=>some (oY t v.1 v.2 (l.drop i))) (by omega) ?_ (v:=(q.2.1,0)) ⟨E,B⟩).trans (by simp);rintro L i ⟨v,e⟩ ⟨a,c⟩ hi Q;unfold AgY Ps Aec Aed;dsimp only at a c ⊢;simp only[dec_lt,AV];rcases AZ i l.length with h|h
  .obtain⟨o1,o2,o3⟩:=y _ (Ah h);rw[decide_eq_true h,BP];simp only[BG h,AB];rw[Dg h,Bn h (by omega),BQ,A2 (by omega) (by omega),S];unfold oY;by_cases H:l[i].Seq<=v
   .rw[AW H,AR (by omega)];exact Q (v,l[i].Next) ⟨a,c⟩ h
   .rw[AR H,AW (by omega)];by_cases I:l[i].Seq=v+1
    .rw[show (l[i].Seq != v+1)=false by rw[bne_eq_false_iff_eq];omega,Bb,BQ];by_cases J:l[i].Seq<=t
     .rw[AR (by omega),AW ⟨I,J⟩];exact Q (v+1,l[i].Next) ⟨by dsimp only;omega,by dsimp only;omega⟩ h
     .rw[AW (by omega),AR (fun g=>J g.2)]
    .rw[show (l[i].Seq != v+1)=true by rw[bne_iff_ne];omega,BP,BP,AR (fun g=>I g.1)]
  .rw[decide_eq_false (by omega),Bb,BA h];simp[oY]
 .rw[show Lh s n q=(K5,0,false) by unfold Lh;rw[AR j],AR j];rfl
def Td(a:Bp)(p:Int):Bp×Bool:=if Fz a=true/\inB p 0 a.Data.length=true then (⟨a.Data.take p.toNat,if a.Safe<p then a.Safe else p⟩,true) else (a,false)
theorem APc(a:Bp)(p:Int):AK6 a p=some (Td a p):=by
 grind[AK6,Aea,Td,HH,AB,Gk,AV,Fz,inB,BP,Bb,B8,S9]
theorem ANg(a:Bp)(p:Int):rb a p=some (Td a p):=by
 grind[rb,ACt,Td,GN,AB,Fb,AV,Fz,inB,BP,Bb,B8]
theorem APm(a:Bp)(p:Int):(Td a p).1.Data.length<=a.Data.length:=by grind[Td]
def Ni(s:BZ):Bool:=(s.Log.Safe==(s.Log.Data.length:Int))&&((s.DW.Safe==(s.DW.Data.length:Int))&&(s.Odd.Safe==(s.Odd.Data.length:Int)))
theorem APW(s:BZ):AK5 s=some (Ni s):=by
 unfold AK5 MJ AK4 Ni;simp only[AB,AV,CX]
theorem ANY(s:BZ):AK9 s=some (Ni s):=by
 unfold AK9 ACs Ni;simp only[AV,CX]
def AZL:BZ:=⟨⟨[],0⟩,⟨[],0⟩,⟨[],0⟩⟩
def zk:Ap:=⟨K5,AZL,0,[]⟩
theorem cM:Cc zk:=⟨Lp,by decide,by decide,by decide,by decide⟩
def FP(s:BZ)(n:Int)(q:AE×Int×Bool):Ap×Bool:=
 if (Lh s n q).2.2=true/\Ni s=true then (⟨(Lh s n q).1,⟨Rq (Td s.Log (MT s n q)).1,s.DW,s.Odd⟩,(Lh s n q).2.1,[]⟩,true) else (zk,false)
theorem AV5{s:BZ}(a:s.Log.Data.length<=1048576)(j:s.DW.Data.length<=1048576)(y:s.Odd.Data.length<=1048576){n:Int}{q:AE×Int×Bool}(h:Vz s n q):AK7 s=some (FP s n q)/\ALA s=some (FP s n q)/\Cc (FP s n q).1:=by
 obtain⟨c,e,g⟩:=recovered a h;have B:=APm s.Log (MT s n q);unfold AK7 ALA Aeb XJ FP;simp only[c,e,AB,APW,ANY,AV,APd a h,sO a h,APc,ANg,MU,UJ,Zy];cases (Lh s n q).2.2 with
 |false=>exact⟨rfl,rfl,cM⟩|true=>
  cases Ni s with
  |false=>exact⟨rfl,rfl,cM⟩|true=>exact⟨rfl,rfl,by rw[AW ⟨rfl,rfl⟩];exact⟨g,by dsimp only;rw[OG];omega,j,y,by simp⟩⟩
def sS(a:Bp)(p:Int):Int:=if p<0 then a.Safe else if p<a.Data.length-a.Safe then a.Safe+p else a.Data.length
def TE(a:Bp)(p:Int):Bp:=if Fz a=true then ⟨a.Data.take (sS a p).toNat,sS a p⟩ else a
theorem AWn(b:Int):OL 0 b=some (if 0<b then b else 0):=by
 unfold OL;rw[BQ];grind
theorem AYh(p:Int){m:Int}(a:0<=m):AK1 p 0 m=some (if p<0 then 0 else if p<m then p else m):=by
 unfold AK1;congr 1
 grind
theorem APY(a:Bp)(p:Int):ACj a p=some (TE a p):=by
 grind[ACj,TE,HH,AB,BK,IT,BP,S9,AWn,A2,sS,B8]
theorem ANa(a:Bp)(p:Int):rZ a p=some (TE a p):=by
 grind[rZ,TE,GN,AB,BK,IT,BP,A2,AYh,sS,B8]
theorem NS(a:Bp)(p:Int):(TE a p).Data.length<=a.Data.length:=by grind[TE]
def HA(s:BZ)(l:List Int):BZ:=⟨TE s.Log (l.getD 0 0),TE s.DW (l.getD 1 0),TE s.Odd (l.getD 2 0)⟩
theorem yB(l:List Int)(i:Nat):AKs l i=some (l.getD i 0):=by
 grind[AKs,BP,BG,AB,Bb]
theorem TW(s:BZ)(l:List Int):rY s l=some (HA s l):=by
 unfold rY HA;rw[show AKs l 0=some (l.getD 0 0) from yB l 0,show AKs l 1=some (l.getD 1 0) from yB l 1,show AKs l 2=some (l.getD 2 0) from yB l 2];simp only[AB,APY]
theorem AZp(l:List Int):List.take (List.replicate (Int.toNat 3) 0).length l++List.drop l.length (List.replicate (Int.toNat 3) 0)=[l.getD 0 0,l.getD 1 0,l.getD 2 0]:=by
 match l with
 | []=>rfl| [a]=>rfl| [a,b]=>rfl|a::b::c::m=>simp[List.getD]
theorem S4(s:BZ)(l:List Int):ACl s l=some (HA s l):=by
 unfold ACl HA;rw[AZp,show at? [l.getD 0 0,l.getD 1 0,l.getD 2 0] 0=some (l.getD 0 0) from rfl,show at? [l.getD 0 0,l.getD 1 0,l.getD 2 0] 1=some (l.getD 1 0) from rfl,show at? [l.getD 0 0,l.getD 1 0,l.getD 2 0] 2=some (l.getD 2 0) from rfl];simp only[AB,ANa]
end Lv.P
