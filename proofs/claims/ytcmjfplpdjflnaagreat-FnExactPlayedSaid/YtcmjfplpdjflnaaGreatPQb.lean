/- Plain laws about what the program computes. -/
import Derived.Test.YtcmjfplpdjflnaaGreatPOb
import Derived.Test.YtcmjfplpdjflnaaGreatPGb
noncomputable section
set_option linter.unusedVariables false
set_option linter.unusedSimpArgs false
set_option linter.unusedSectionVars false
open Bool renaming not_true->CL
open List renaming drop_eq_nil_of_le->A9,getElem_mem->Au,length_cons->AI,length_nil->AR
open Nat renaming le_trans->Aw,lt_or_ge->AZ
namespace Lv.P
open Lv Go
theorem Td(s:Bk):∃c,eK s=some c/\ZA s=some c/\(c = -1\/c=0\/c=1):=by
 obtain⟨r,h,j,_⟩:=I9 s 0;obtain⟨r',q,y,_⟩:=I9 s 1;unfold eK ZA VV eM VW;rw[h,j,q,y,AB,AB,AB,AB];cases e:r.2.2<;>cases g:r'.2.2<;>simp only[BB,BK,BL,AV,e,g,CL,Bool.not_false]
 .grind
 .exact⟨_,rfl,rfl,by decide⟩
 .exact⟨_,rfl,rfl,by decide⟩
 .by_cases a:r.2.1>=r'.2.1
  .rw[show decide (r.2.1>=r'.2.1)=true from decide_eq_true a,show decide (r'.2.1>r.2.1)=false from decide_eq_false (by omega)];exact⟨_,rfl,rfl,by decide⟩
  .rw[show decide (r.2.1>=r'.2.1)=false from decide_eq_false a,show decide (r'.2.1>r.2.1)=true from decide_eq_true (by omega)];exact⟨_,rfl,rfl,by decide⟩
def WT(s:Bk)(k:Int)(a:Bl):Bk:=if (k.tmod 2==0)=true then ⟨s.Log,a,s.Odd⟩ else ⟨s.Log,s.EZ,a⟩
theorem Wn(s:Bk)(k:Int)(a:Bl):AIZ s k a=some (WT s k a):=by unfold AIZ WT;rw[B7,AV,AV];split<;>rfl
theorem sX(s:Bk)(k:Int)(a:Bl):m7 s k a=some (WT s k a):=by unfold m7 WT;rw[B7,AV,AV];split<;>rfl
theorem Yc(s:Bk)(l:Bl)(k:Int):WT ⟨l,s.EZ,s.Odd⟩ k (Gx s k)=⟨l,s.EZ,s.Odd⟩:=by unfold WT Gx;split<;>rfl
def R3(a:Bl)(p:Int):Bl×Bool:=if H9 a=true/\inB p 0 a.Data.length=true/\a.Safe=a.Data.length then (⟨a.Data.drop p.toNat,(a.Data.length:Int)-p⟩,true) else (a,false)
theorem oI(a:Bl)(p:Int):AIY a p=some (R3 a p):=by
 grind[AIY,Vk,R3,HZ,AB,GB,AV,B7,H9,inB,B8,Ah]
theorem AKy(a:Bl)(p:Int):AIa a p=some (R3 a p):=by
 grind[AIa,Vl,R3,HX,AB,FD,AV,B7,H9,inB,B8,Ah]
theorem AMv{a:Bl}{p:Int}(h:(R3 a p).2=false):(R3 a p).1=a:=by unfold R3 at h ⊢;grind
theorem oH(a:Bl)(p:Int):(R3 a p).1.Data.length<=a.Data.length:=by unfold R3;split<;>simp
theorem vL{a:Bl}{s:List UInt8}(h:(H8 a s).2=false):(H8 a s).1=a:=by unfold H8 at h ⊢;grind
theorem jv{e:A7}(a:Cf e)(k:Int):(Gx e.Bg k).Data.length<=1048576:=by unfold Gx;split;exact a.even;exact a.odd
theorem tp{e:A7}(c:Cf e){k:Int}{a:Bl}(h:a.Data.length<=1048576):Cf ⟨e.A2,WT e.Bg k a,e.Seq,e.Laid⟩:=by
 unfold WT;split<;>exact⟨c.FN,c.log,by first|exact h|exact c.even,by first|exact h|exact c.odd,c.laid⟩
theorem S7{e:A7}(a:Cf e)(p:Int):∃r,m0 e p=some r/\AIb e p=some r/\Cf r.1:=by
 obtain⟨n,B,E,J⟩:=Td e.Bg;obtain⟨r,G,H,_⟩:=I9 e.Bg n;unfold m0 AIb;rw[IU a,Mw a,E,Hw a,JH a,GB,WD,show w64 (4-1)=3 from rfl];simp only[AB,AV];cases I:FF e with
 |false=>exact⟨(e,false),rfl,rfl,a⟩|true=>
 simp only[CL,BL];by_cases j:(e.Laid.length:Int)>0
 .rw[decide_eq_true j];exact⟨(e,false),rfl,rfl,a⟩
 rw[decide_eq_false j,BL,BL];cases hi:inB p 0 3 with
 |false=>exact⟨(e,false),rfl,rfl,a⟩|true=>
 simp only[CL,BL];unfold RG RI Oi RJ;rw[BL,B,AB];by_cases q:n<0
 .rw[decide_eq_true q,BK,BK];exact⟨(e,false),rfl,rfl,a⟩
 have g:=jv a (w64 (1-n));have c:=fun s=>ZI (s:=s) g
 simp only[decide_eq_false q,BL,Nr,ZN,AB,Wn,sX,AV,LA a.FN,N8 a.FN,R5 (Aw (Mi e.A2 e.Seq) (by omega)),c _ (Aw (Mi e.A2 e.Seq) (by omega)),Sr,YE,G,H,Wm a.log,sU a.log,oI,AKy,IU a,BB,BK];have y:∀k,WT e.Bg k (Gx e.Bg k)=e.Bg:=fun k=>Yc e.Bg e.Bg.Log k
 cases p==0 with
 |true=>exact⟨_,rfl,rfl,tp a (by simp)⟩|false=>
 rw[BL,BL];cases p==1 with
 |true=>
  rw[BK,BK];cases h:(H8 (Gx e.Bg (w64 (1-n))) (MH e.A2 e.Seq)).2 with
  |true=>exact⟨_,rfl,rfl,tp a (Yv g)⟩|false=>exact⟨(e,false),rfl,by rw[vL h,y],a⟩
 |false=>
 rw[BL,BL];cases p==2 with
 |true=>exact⟨_,rfl,rfl,tp a (by rw[QT];exact g)⟩|false=>
 rw[BL,BL];cases h:(R3 e.Bg.Log (ACj r.2.1 0 (Eh e.Bg.Log.Data))).2 with
 |true=>exact⟨_,rfl,by rw[Yc],by dsimp only;rw[Yc];exact⟨a.FN,Aw (oH _ _) a.log,a.even,a.odd,a.laid⟩⟩|false=>exact⟨(e,false),rfl,by rw[AMv h],a⟩
theorem AEn(p:Int):gT p 0 4=some (if p<0 then 0 else if p<4 then p else 4):=by
 unfold gT;congr 1
 grind
theorem lG(p:Int):∀(m n:Nat) (i:Int) (e:A7),Cf e->0<=i->i<=4->4<=(m:Int)+i->m<n->∃r,A3 (RL p) n (i,e)=some r/\A3 (Vm p) n (i,e)=some r/\Cf r.1
 |m,0,i,e,a,g,j,h,c=>absurd c (by omega)|m,n+1,i,e,a,g,j,h,c=>by
  rw[Dh,Dh];have H:=fun x B q y=>lG p (m-1) n (i+1) x B (by omega) q (by omega) y
  generalize A3 (RL p) n=L at *;generalize A3 (Vm p) n=M at *;unfold RL Vm gR AAP;dsimp only;rw[Rh,AEn,AB,AB,AV,BQ,BQ];by_cases hi:i<(if p<4 then p else 4)
  .rw[AX hi,AX (show i<(if p<0 then 0 else if p<4 then p else 4) by grind)];obtain⟨r,E,G,I⟩:=S7 a i;rw[E,G,AB,AB,BB,BB];cases r.2 with
   |false=>exact⟨_,rfl,rfl,a⟩|true=>
    grind[BK,Ah]
  .rw[AU hi,AU (show ¬i<(if p<0 then 0 else if p<4 then p else 4) by grind)];exact⟨_,rfl,rfl,a⟩
theorem AKD{e:A7}(a:Cf e)(p:Int):∃r,gQ e p=some r/\AIc e p=some r/\Cf r.1:=by
 unfold gQ AIc;rw[IU a,Mw a,AB,AB];exact lG p 4 big 0 e a (by omega) (by omega) (by omega) (by have:=Nw;omega)
def aft:Int->List Bv->List Bv|_,[]=>[]|v,f::l=>if f.Seq<=v then aft v l else if f.Seq=v+1 then f::aft (v+1) l else []
def AVJ(f:Bv):Prop:=1<=f.Seq/\f.Seq<=1000000/\f.Body.length<=60
theorem AOg:∀(f:Nat) (s:List UInt8) (i:Int),∀x∈frs f s i,AVJ x
 |0,s,i,x,c=>by simp[frs]at c|f+1,s,i,x,c=>by
  unfold frs at c;split at c
  .rename_i h;rcases List.mem_cons.1 c with e|e
   .rw[e];unfold Ts at h ⊢;split at h
    .rename_i hi;rw[AX hi];rcases Pr (s.drop i.toNat) i with ⟨q,b,a,y,g⟩|⟨j,g⟩
     .rw[g];exact⟨a.1.1,a.1.2,a.2.2⟩
     .rw[g]at h;simp at h
    .simp at h
   .exact AOg f s _ x e
  .simp at c
theorem Xa(s:List UInt8):∀x∈Eh s,AVJ x:=AOg _ _ _
theorem Zv:∀(l:List Bv) (v:Int),(aft v l).length<=l.length
 | [],v=>by simp[aft]|f::l,v=>by
  unfold aft;have:=Zv l v;have:=Zv l (v+1)
  grind
theorem ou:∀(l:List Bv) (v:Int),∀x∈aft v l,x∈l
 | [],v,x,a=>by simp[aft]at a|f::l,v,x,a=>by
  unfold aft at a;have c:=ou l v x;have e:=ou l (v+1) x
  grind
theorem AFi{l:List Bv}(E:l.length<=1048576)(y:∀f∈l,AVJ f){p:Int}(B:0<=p/\p<=1000000):AId l p=some (aft p l):=by
 have hlim:lim=268435456:=rfl;unfold AId;refine(C1 (n:=l.length) (fun i (v:Int×List Bv)=>(v.1,v.2,(i:Int))) (fun i v=>v.2.length<=i/\0<=v.1/\v.1<=1000000) (fun i v=>some (v.2++aft v.1 (l.drop i))) (by omega) ?_ (v:=(p,[])) (by simpa using B)).trans (by simp);rintro L i ⟨v,acc⟩ ⟨q,a,c⟩ hi j;unfold AAQ gU gV;dsimp only at q a c ⊢;simp only[dec_lt,AV];rcases AZ i l.length with h|h
 .obtain⟨G,H,I⟩:=y _ (Au h);rw[decide_eq_true h,BK,BJ h,AB,AB,AB,AB,DR h,Bt h (by omega),BQ,Ah (by omega) (by omega)];unfold aft;by_cases e:l[i].Seq<=v
  .rw[AX e,AX e];exact j (v,acc) ⟨by dsimp only;omega,a,c⟩ h
  .rw[AU e,AU e];by_cases g:l[i].Seq=v+1
   .rw[AX g,show (l[i].Seq-1 != v)=false by rw[bne_eq_false_iff_eq];omega,BL,B8 (by simp only[AI,AR];omega)];have:=j (l[i].Seq,acc++[l[i]]) ⟨by simp;omega,by dsimp only;omega,by dsimp only;omega⟩ h;rw[this,g];simp
   grind[BK]
 .rw[decide_eq_false (by omega),BL,A9 h];simp[aft]
theorem AEg{l:List Bv}(E:l.length<=1048576)(y:∀f∈l,AVJ f){p:Int}(B:0<=p/\p<=1000000):AHP l p=some (aft p l):=by
 have hlim:lim=268435456:=rfl;unfold AHP;refine(C1 (n:=l.length) (fun i (v:Int×List Bv)=>(v.2,v.1,(i:Int))) (fun i v=>v.2.length<=i/\0<=v.1/\v.1<=1000000) (fun i v=>some (v.2++aft v.1 (l.drop i))) (by omega) ?_ (v:=(p,[])) (by simpa using B)).trans (by simp);rintro L i ⟨v,acc⟩ ⟨q,a,c⟩ hi g;unfold yz dF dG;dsimp only at q a c ⊢;simp only[dec_lt,AV];rcases AZ i l.length with h|h
 .obtain⟨G,H,I⟩:=y _ (Au h);rw[decide_eq_true h,BK,BJ h,AB,DR h,Bt h (by omega),BQ,Ah (by omega) (by omega)];unfold aft;by_cases e:l[i].Seq<=v
  .rw[AX e,AX e];exact g (v,acc) ⟨by dsimp only;omega,a,c⟩ h
  .rw[AU e,AU e];by_cases j:l[i].Seq=v+1
   .rw[AX j,show (l[i].Seq != v+1)=false by rw[bne_eq_false_iff_eq];omega,BL,B8 (by simp only[AI,AR];omega)];have:=g (v+1,acc++[l[i]]) ⟨by simp;omega,by dsimp only;omega,by dsimp only;omega⟩ h;rw[this];simp
   grind[BK]
 .rw[decide_eq_false (by omega),BL,A9 h];simp[aft]
def notes:List Bv->List Bp| []=>[]|f::l=>if (NI f.Body).2=true then (NI f.Body).1::notes l else []
theorem YY:∀l,(notes l).length<=l.length
 | []=>by simp[notes]|f::l=>by
  unfold notes;have:=YY l;split<;>simp<;>omega
theorem nd{l:List Bv}(a:l.length<=1048576){G:List UInt8->AA (Bp×Bool)}(hG:∀f∈l,G f.Body=some (NI f.Body)){F:(List Bp×Int->AA (List Bp))->List Bp×Int->AA (List Bp)}
 (hF:∀L acc i,F L (acc,i)=br (decide (i<(l.length:Int))) (bd (at? l i) fun x=>bd (G x.Body) fun y=>br (!y.2) (some acc) (gd (acc.length+[y.1].length<=lim) (L (acc++[y.1],w64 (i+1))))) (some acc)) :
 A3 F big ([],0)=some (notes l):=by
 refine(C1 (n:=l.length) (fun i (v:List Bp)=>(v,(i:Int))) (fun i v=>v.length<=i) (fun i v=>some (v++notes (l.drop i))) (by omega) ?_ (v:=[]) (by simp)).trans (by simp)
 grind[BJ,AB,DR,Bt,B7,notes,B8,lim]
theorem uR{l:List Bv}(e:l.length<=1048576)(a:∀f∈l,f.Body.length<=1048576):AHW l=some (notes l):=by
 unfold AHW;exact nd e (G:=mb) (fun f c=>Wo (a f c)) fun L acc i=>by unfold zM dk;simp only[AV]
theorem sV{l:List Bv}(e:l.length<=1048576)(a:∀f∈l,f.Body.length<=1048576):AHO l=some (notes l):=by
 unfold AHO;exact nd e (G:=zG) (fun f c=>sY (a f c)) fun L acc i=>by unfold yw cy;simp only[AV]
theorem ot{s:Bk}{k:Int}{r:AE×Int×Bool}(h:RB s k=some r):0<=r.2.1/\r.2.1<=1000000:=by
 unfold RB at h;rw[Nr,AB,HZ,AB,BB]at h;cases a:H9 (Gx s k) with
 |false=>rw[a,BL]at h;cases h;decide
 |true=>
  have j:=SI.1 a;rw[a,BK,B8 j.2]at h;obtain⟨q,g,y,c⟩:=S9 (s:=List.take (Gx s k).Safe.toNat (Gx s k).Data) (by rw[List.length_take];omega);rw[g,AB]at h;cases h;cases e:q.2.2 with
  |false=>rw[c.no e];decide|true=>
   have B:=(c.yes e).2.2
   grind[MH,CQ,zd,VU,BQ,AV]
def Wb(s:Bk)(n:Int)(q:AE×Int×Bool):AE×Int×Bool:=
 if NP s=true/\¬n<0 then ((I0 (notes (aft q.2.1 (Eh s.Log.Data))) q.1).1,q.2.1+(notes (aft q.2.1 (Eh s.Log.Data))).length,true) else (Lr,0,false)
structure af(s:Bk)(n:Int)(q:AE×Int×Bool):Prop where
 sn:eK s=some n
 im:ZA s=some n
 sr:RB s n=some q
 ir:RC s n=some q
 fit:B0 q.1
 lo:0<=q.2.1
 hi:q.2.1<=1000000
theorem AYv(s:Bk):∃n q,af s n q:=by
 obtain⟨n,c,e,_⟩:=Td s;obtain⟨q,q1,g,h⟩:=I9 s n;obtain⟨a,b⟩:=ot q1;exact⟨n,q,c,e,q1,g,h,a,b⟩
theorem recovered{s:Bk}(j:s.Log.Data.length<=1048576){n:Int}{q:AE×Int×Bool}(h:af s n q):AII s=some (Wb s n q)/\AAG s=some (Wb s n q)/\B0 (Wb s n q).1:=by
 have E:=M7 s.Log.Data;have a:=Xa s.Log.Data;have y:=Zv (Eh s.Log.Data) q.2.1;have I:=YY (aft q.2.1 (Eh s.Log.Data));have e:∀f∈aft q.2.1 (Eh s.Log.Data),f.Body.length<=1048576:=fun f B=>by have:=(a f (ou _ _ f B)).2.2;omega
 have H:=h.lo;have G:=h.hi;unfold AII AAG fk fw Wb;simp only[h.sn,h.im,h.sr,h.ir,AB,QR,V9,AV,R7 j,Rb j];rw[AFi (by omega) a ⟨h.lo,h.hi⟩,AEg (by omega) a ⟨h.lo,h.hi⟩,AB,AB,uR (by omega) e,sV (by omega) e,AB,AB,UH h.fit (by omega),T3 h.fit (by omega),AB,Ah (by omega) (by omega)];cases e:NP s with
 |false=>exact⟨rfl,rfl,K7⟩|true=>
  by_cases c:n<0
  .rw[decide_eq_true c,AU (fun g=>g.2 c)];exact⟨rfl,rfl,K7⟩
  .rw[decide_eq_false c,AX ⟨rfl,c⟩];exact⟨rfl,rfl,(Kh _ h.fit).1⟩
def used:Int->Int->List Bv->Int|_,e,[]=>e|v,e,f::l=>if f.Seq<=v then used v f.Next l else if f.Seq=v+1/\(NI f.Body).2=true then used (v+1) f.Next l else e
def kN(t:Int):Int->Int->List Bv->Int|_,e,[]=>e|v,e,f::l=>if f.Seq<=v then kN t v f.Next l else if f.Seq=v+1/\f.Seq<=t then kN t (v+1) f.Next l else e
theorem kO:∀(l:List Bv) (v e:Int),kN (v+(notes (aft v l)).length) v e l=used v e l
 | [],v,e=>rfl|f::l,v,e=>by
  unfold kN used;unfold aft;by_cases a:f.Seq<=v
  .rw[AX a,AX a,AX a,kO l]
  .rw[AU a,AU a,AU a];by_cases c:f.Seq=v+1
   .rw[AX c];unfold notes;by_cases h:(NI f.Body).2=true
    .rw[AX h,AI,AX (show _/\_ from ⟨c,by omega⟩),AX (show _/\(NI f.Body).2=true from ⟨c,h⟩),<-kO l (v+1)];congr 1;omega
    .grind
   .rw[AU c,AU (fun g=>c g.1),AU (fun g=>c g.1)]
def oU(s:Bk)(n:Int)(q:AE×Int×Bool):Int:=if NP s=true/\¬n<0 then used q.2.1 0 (Eh s.Log.Data) else 0
theorem AM4{s:Bk}(Q:s.Log.Data.length<=1048576){n:Int}{q:AE×Int×Bool}(h:af s n q):AAD s=some (oU s n q):=by
 have O:=M7 s.Log.Data;have B:=Xa s.Log.Data;have G:=h.lo;have E:=h.hi;unfold AAD fm oU;simp only[h.sn,h.sr,AB,QR,AV,R7 Q];have key:A3 (ft (Eh s.Log.Data)) big (q.2.1,0,0)=some (used q.2.1 0 (Eh s.Log.Data)):=by
  generalize Eh s.Log.Data=l at *;refine(C1 (n:=l.length) (fun i (v:Int×Int)=>(v.1,v.2,(i:Int))) (fun i v=>0<=v.1/\v.1<=1000000) (fun i v=>some (used v.1 v.2 (l.drop i))) (by omega) ?_ (v:=(q.2.1,0)) ⟨G,E⟩).trans (by simp);rintro L i ⟨v,e⟩ ⟨a,c⟩ hi J;unfold ft fq AAE;dsimp only at a c ⊢;simp only[dec_lt,AV];rcases AZ i l.length with h|h
  .obtain⟨X,Y,Z⟩:=B _ (Au h);rw[decide_eq_true h,BK];simp only[BJ h,AB];rw[DR h,Bt h (by omega),BQ,Ah (by omega) (by omega),Wo (by omega)];unfold used;by_cases H:l[i].Seq<=v
   .rw[AX H,AU (by omega),show (l[i].Seq==v+1)=false by rw[beq_eq_false_iff_ne];omega,BL];exact J (v,l[i].Next) ⟨a,c⟩ h
   .rw[AU H];by_cases I:l[i].Seq=v+1
    .rw[AU (by omega),show (l[i].Seq==v+1)=true by rw[beq_iff_eq];omega,BK,AB,BB,B7];by_cases j:(NI l[i].Body).2=true
     .rw[AX j,AX ⟨I,j⟩];exact J (v+1,l[i].Next) ⟨by dsimp only;omega,by dsimp only;omega⟩ h
     .rw[AU j,AU (fun g=>j g.2)]
    .rw[AX (by omega),AU (fun g=>I g.1)]
  .rw[decide_eq_false (by omega),BL,A9 h];simp[used]
 rw[key];cases S:NP s with
 |false=>rfl|true=>
  by_cases y:n<0
  .rw[decide_eq_true y,AU (fun g=>g.2 y)];rfl
  .rw[decide_eq_false y,AX ⟨rfl,y⟩];rfl
theorem AK1{s:Bk}(O:s.Log.Data.length<=1048576){n:Int}{q:AE×Int×Bool}(h:af s n q):AAH s=some (oU s n q):=by
 have Y:=M7 s.Log.Data;have y:=Xa s.Log.Data;have E:=h.lo;have B:=h.hi;unfold AAH oU;simp only[(recovered O h).2.1,h.im,h.ir,AB,Ce,Hm,Rb O];by_cases j:NP s=true/\¬n<0
 .have G:(Wb s n q).2=(q.2.1+(notes (aft q.2.1 (Eh s.Log.Data))).length,true):=by unfold Wb;rw[AX j]
  rw[G,AX j];dsimp only;rw[BB,BK,<-kO];have Z:=YY (aft q.2.1 (Eh s.Log.Data));have X:=Zv (Eh s.Log.Data) q.2.1;have S:(Wb s n q).2.1=q.2.1+(notes (aft q.2.1 (Eh s.Log.Data))).length:=by rw[G]
  generalize q.2.1+((notes (aft q.2.1 (Eh s.Log.Data))).length:Int)=t at *;generalize Wb s n q=r at *;generalize Eh s.Log.Data=l at *;refine(C1 (n:=l.length) (fun i (v:Int×Int)=>(v.1,v.2,(i:Int))) (fun i v=>0<=v.1/\v.1<=1000000) (fun i v=>some (kN t v.1 v.2 (l.drop i))) (by omega) ?_ (v:=(q.2.1,0)) ⟨E,B⟩).trans (by simp);rintro L i ⟨v,e⟩ ⟨a,c⟩ hi Q;unfold AAI fx fy fz;dsimp only at a c ⊢;simp only[dec_lt,AV];rcases AZ i l.length with h|h
  .obtain⟨o1,o2,o3⟩:=y _ (Au h);rw[decide_eq_true h,BK];simp only[BJ h,AB];rw[DR h,Bt h (by omega),BQ,Ah (by omega) (by omega),S];unfold kN;by_cases H:l[i].Seq<=v
   .rw[AX H,AU (by omega)];exact Q (v,l[i].Next) ⟨a,c⟩ h
   .rw[AU H,AX (by omega)];by_cases I:l[i].Seq=v+1
    .rw[show (l[i].Seq != v+1)=false by rw[bne_eq_false_iff_eq];omega,BL,BQ];by_cases J:l[i].Seq<=t
     .rw[AU (by omega),AX ⟨I,J⟩];exact Q (v+1,l[i].Next) ⟨by dsimp only;omega,by dsimp only;omega⟩ h
     .rw[AX (by omega),AU (fun g=>J g.2)]
    .rw[show (l[i].Seq != v+1)=true by rw[bne_iff_ne];omega,BK,BK,AU (fun g=>I g.1)]
  .rw[decide_eq_false (by omega),BL,A9 h];simp[kN]
 .rw[show Wb s n q=(Lr,0,false) by unfold Wb;rw[AU j],AU j];rfl
def kL(a:Bl)(p:Int):Bl×Bool:=if H9 a=true/\inB p 0 a.Data.length=true then (⟨a.Data.take p.toNat,if a.Safe<p then a.Safe else p⟩,true) else (a,false)
theorem AM3(a:Bl)(p:Int):my a p=some (kL a p):=by
 grind[my,fu,kL,HZ,AB,GB,AV,H9,inB,BK,BL,B8,Rh]
theorem AK0(a:Bl)(p:Int):mz a p=some (kL a p):=by
 grind[mz,gA,kL,HX,AB,FD,AV,H9,inB,BK,BL,B8]
theorem ANA(a:Bl)(p:Int):(kL a p).1.Data.length<=a.Data.length:=by grind[kL]
def lQ(s:Bk):Bool:=(s.Log.Safe==(s.Log.Data.length:Int))&&((s.EZ.Safe==(s.EZ.Data.length:Int))&&(s.Odd.Safe==(s.Odd.Data.length:Int)))
theorem AMw(s:Bk):AIJ s=some (lQ s):=by
 unfold AIJ Vh AAC lQ;simp only[AB,AV,Cp]
theorem AKs(s:Bk):AIK s=some (lQ s):=by
 unfold AIK Vi lQ;simp only[AV,Cp]
def AZB:Bk:=⟨⟨[],0⟩,⟨[],0⟩,⟨[],0⟩⟩
def AJ9:A7:=⟨Lr,AZB,0,[]⟩
theorem SG:Cf AJ9:=⟨K7,by decide,by decide,by decide,by decide⟩
def KQ(s:Bk)(n:Int)(q:AE×Int×Bool):A7×Bool:=
 if (Wb s n q).2.2=true/\lQ s=true then (⟨(Wb s n q).1,⟨Zl (kL s.Log (oU s n q)).1,s.EZ,s.Odd⟩,(Wb s n q).2.1,[]⟩,true) else (AJ9,false)
theorem AZG{s:Bk}(a:s.Log.Data.length<=1048576)(j:s.EZ.Data.length<=1048576)(y:s.Odd.Data.length<=1048576){n:Int}{q:AE×Int×Bool}(h:af s n q):AAF s=some (KQ s n q)/\AAR s=some (KQ s n q)/\Cf (KQ s n q).1:=by
 obtain⟨c,e,g⟩:=recovered a h;have B:=ANA s.Log (oU s n q);unfold AAF AAR fv gW KQ;simp only[c,e,AB,AMw,AKs,AV,AM4 a h,AK1 a h,AM3,AK0,LW,Sr,YE];cases (Wb s n q).2.2 with
 |false=>exact⟨rfl,rfl,SG⟩|true=>
  cases lQ s with
  |false=>exact⟨rfl,rfl,SG⟩|true=>exact⟨rfl,rfl,by rw[AX ⟨rfl,rfl⟩];exact⟨g,by dsimp only;rw[QT];omega,j,y,by simp⟩⟩
def AJS(a:Bl)(p:Int):Int:=if p<0 then a.Safe else if p<a.Data.length-a.Safe then a.Safe+p else a.Data.length
def WI(a:Bl)(p:Int):Bl:=if H9 a=true then ⟨a.Data.take (AJS a p).toNat,AJS a p⟩ else a
theorem AWU(b:Int):qA 0 b=some (if 0<b then b else 0):=by
 unfold qA;rw[BQ];grind
theorem AYT(p:Int){m:Int}(a:0<=m):gT p 0 m=some (if p<0 then 0 else if p<m then p else m):=by
 unfold gT;congr 1
 grind
theorem AMy(a:Bl)(p:Int):m8 a p=some (WI a p):=by
 grind[m8,WI,HZ,AB,BB,SI,BK,Rh,AWU,Ah,AJS,B8]
theorem AKu(a:Bl)(p:Int):m9 a p=some (WI a p):=by
 grind[m9,WI,HX,AB,BB,SI,BK,Ah,AYT,AJS,B8]
theorem YP(a:Bl)(p:Int):(WI a p).Data.length<=a.Data.length:=by grind[WI]
def IW(s:Bk)(l:List Int):Bk:=⟨WI s.Log (l.getD 0 0),WI s.EZ (l.getD 1 0),WI s.Odd (l.getD 2 0)⟩
theorem si(l:List Int)(i:Nat):Vn l i=some (l.getD i 0):=by
 grind[Vn,BK,BJ,AB,BL]
theorem Zd(s:Bk)(l:List Int):AAS s l=some (IW s l):=by
 unfold AAS IW;rw[show Vn l 0=some (l.getD 0 0) from si l 0,show Vn l 1=some (l.getD 1 0) from si l 1,show Vn l 2=some (l.getD 2 0) from si l 2];simp only[AB,AMy]
theorem AZc(l:List Int):List.take (List.replicate (Int.toNat 3) 0).length l++List.drop l.length (List.replicate (Int.toNat 3) 0)=[l.getD 0 0,l.getD 1 0,l.getD 2 0]:=by
 match l with
 | []=>rfl| [a]=>rfl| [a,b]=>rfl|a::b::c::m=>simp[List.getD]
theorem ZJ(s:Bk)(l:List Int):AAT s l=some (IW s l):=by
 unfold AAT IW;rw[AZc,show at? [l.getD 0 0,l.getD 1 0,l.getD 2 0] 0=some (l.getD 0 0) from rfl,show at? [l.getD 0 0,l.getD 1 0,l.getD 2 0] 1=some (l.getD 1 0) from rfl,show at? [l.getD 0 0,l.getD 1 0,l.getD 2 0] 2=some (l.getD 2 0) from rfl];simp only[AB,AKu]
theorem nD{e:A7}(a:Cf e)(l:List Int):(IW e.Bg l).Log.Data.length<=1048576/\(IW e.Bg l).EZ.Data.length<=1048576/\(IW e.Bg l).Odd.Data.length<=1048576:=
 ⟨Aw (YP _ _) a.log,Aw (YP _ _) a.even,Aw (YP _ _) a.odd⟩
end Lv.P
