/- Plain laws about what the program computes. -/
import Derived.Test.YtcmjfplpdjflnaaGreatPO
import Derived.Test.YtcmjfplpdjflnaaGreatPG
noncomputable section
set_option linter.unusedVariables false
set_option linter.unusedSimpArgs false
set_option linter.unusedSectionVars false
open Bool renaming not_true->CK
open List renaming drop_eq_nil_of_le->A9,getElem_mem->Ao,length_cons->AJ,length_nil->AS
open Nat renaming le_trans->A1,lt_or_ge->Ab
namespace Lv.P
open Lv Go
theorem ag(s:Br):∃c,eP s=some c/\ZI s=some c/\(c = -1\/c=0\/c=1):=by
 obtain⟨r,h,j,_⟩:=K0 s 0;obtain⟨r',q,y,_⟩:=K0 s 1;unfold eP ZI VU fe Vc;rw[h,j,q,y,AB,AB,AB,AB];cases e:r.2.2<;>cases g:r'.2.2<;>simp only[BK,BL,BO,AU,e,g,CK,Bool.not_false]
 .grind
 .exact⟨_,rfl,rfl,by decide⟩
 .exact⟨_,rfl,rfl,by decide⟩
 .by_cases a:r.2.1>=r'.2.1
  .rw[show decide (r.2.1>=r'.2.1)=true from decide_eq_true a,show decide (r'.2.1>r.2.1)=false from decide_eq_false (by omega)];exact⟨_,rfl,rfl,by decide⟩
  .rw[show decide (r.2.1>=r'.2.1)=false from decide_eq_false a,show decide (r'.2.1>r.2.1)=true from decide_eq_true (by omega)];exact⟨_,rfl,rfl,by decide⟩
def uI(s:Br)(k:Int)(a:B3):Br:=if (k.tmod 2==0)=true then ⟨s.Log,a,s.Odd⟩ else ⟨s.Log,s.EJ,a⟩
theorem um(s:Br)(k:Int)(a:B3):AIz s k a=some (uI s k a):=by unfold AIz uI;rw[CJ,AU,AU];split<;>rfl
theorem s6(s:Br)(k:Int)(a:B3):n7 s k a=some (uI s k a):=by unfold n7 uI;rw[CJ,AU,AU];split<;>rfl
theorem Yf(s:Br)(l:B3)(k:Int):uI ⟨l,s.EJ,s.Odd⟩ k (Ir s k)=⟨l,s.EJ,s.Odd⟩:=by unfold uI Ir;split<;>rfl
def TF(a:B3)(p:Int):B3×Bool:=if Ii a=true/\inB p 0 a.Data.length=true/\a.Safe=a.Data.length then (⟨a.Data.drop p.toNat,(a.Data.length:Int)-p⟩,true) else (a,false)
theorem ANW(a:B3)(p:Int):AIy a p=some (TF a p):=by
 grind[AIy,Vl,TF,HR,AB,GL,AU,CJ,Ii,inB,B4,Aq]
theorem ALL(a:B3)(p:Int):AJG a p=some (TF a p):=by
 grind[AJG,Vr,TF,IJ,AB,E9,AU,CJ,Ii,inB,B4,Aq]
theorem ANO{a:B3}{p:Int}(h:(TF a p).2=false):(TF a p).1=a:=by unfold TF at h ⊢;grind
theorem ANP(a:B3)(p:Int):(TF a p).1.Data.length<=a.Data.length:=by unfold TF;split<;>simp
theorem va{a:B3}{s:List UInt8}(h:(JC a s).2=false):(JC a s).1=a:=by unfold JC at h ⊢;grind
theorem AGL{e:BD}(a:Cw e)(k:Int):(Ir e.Bl k).Data.length<=1048576:=by unfold Ir;split;exact a.even;exact a.odd
theorem uJ{e:BD}(c:Cw e){k:Int}{a:B3}(h:a.Data.length<=1048576):Cw ⟨e.Az,uI e.Bl k a,e.Seq,e.Laid⟩:=by
 unfold uI;split<;>exact⟨c.FY,c.log,by first|exact h|exact c.even,by first|exact h|exact c.odd,c.laid⟩
theorem lZ{e:BD}(a:Cw e)(p:Int):∃r,AJF e p=some r/\AJH e p=some r/\Cw r.1:=by
 obtain⟨n,B,E,J⟩:=ag e.Bl;obtain⟨r,G,H,_⟩:=K0 e.Bl n;unfold AJF AJH;rw[KW a,Mo a,E,I8 a,I4 a,GL,WL,show w64 (4-1)=3 from rfl];simp only[AB,AU];cases I:FO e with
 |false=>exact⟨(e,false),rfl,rfl,a⟩|true=>
 simp only[CK,BO];by_cases j:(e.Laid.length:Int)>0
 .rw[decide_eq_true j];exact⟨(e,false),rfl,rfl,a⟩
 rw[decide_eq_false j,BO,BO];cases hi:inB p 0 3 with
 |false=>exact⟨(e,false),rfl,rfl,a⟩|true=>
 simp only[CK,BO];unfold Vq Q6 Q5 Q7;rw[BO,B,AB];by_cases q:n<0
 .rw[decide_eq_true q,BL,BL];exact⟨(e,false),rfl,rfl,a⟩
 have g:=AGL a (w64 (1-n));have c:=fun s=>ZS (s:=s) g
 simp only[decide_eq_false q,BO,Rs,ZX,AB,um,s6,AU,TK a.FY,S6 a.FY,Zn (A1 (Yp e.Az e.Seq) (by omega)),c _ (A1 (Yp e.Az e.Seq) (by omega)),Yq,YH,G,H,ui a.log,sy a.log,ANW,ALL,KW a,BK,BL];have y:∀k,uI e.Bl k (Ir e.Bl k)=e.Bl:=fun k=>Yf e.Bl e.Bl.Log k
 cases p==0 with
 |true=>exact⟨_,rfl,rfl,uJ a (by simp)⟩|false=>
 rw[BO,BO];cases p==1 with
 |true=>
  rw[BL,BL];cases h:(JC (Ir e.Bl (w64 (1-n))) (PC e.Az e.Seq)).2 with
  |true=>exact⟨_,rfl,rfl,uJ a (Y0 g)⟩|false=>exact⟨(e,false),rfl,by rw[va h,y],a⟩
 |false=>
 rw[BO,BO];cases p==2 with
 |true=>exact⟨_,rfl,rfl,uJ a (by rw[UK];exact g)⟩|false=>
 rw[BO,BO];cases h:(TF e.Bl.Log (AC3 r.2.1 0 (Eg e.Bl.Log.Data))).2 with
 |true=>exact⟨_,rfl,by rw[Yf],by dsimp only;rw[Yf];exact⟨a.FY,A1 (ANP _ _) a.log,a.even,a.odd,a.laid⟩⟩|false=>exact⟨(e,false),rfl,by rw[ANO h],a⟩
theorem AFM(p:Int):iA p 0 4=some (if p<0 then 0 else if p<4 then p else 4):=by
 unfold iA;congr 1
 grind
theorem mH(p:Int):∀(m n:Nat) (i:Int) (e:BD),Cw e->0<=i->i<=4->4<=(m:Int)+i->m<n->∃r,A3 (Vt p) n (i,e)=some r/\A3 (Vu p) n (i,e)=some r/\Cw r.1
 |m,0,i,e,a,g,j,h,c=>absurd c (by omega)|m,n+1,i,e,a,g,j,h,c=>by
  rw[Dv,Dv];have H:=fun x B q y=>mH p (m-1) n (i+1) x B (by omega) q (by omega) y
  generalize A3 (Vt p) n=L at *;generalize A3 (Vu p) n=M at *;unfold Vt Vu AAr AAs;dsimp only;rw[WQ,AFM,AB,AB,AU,BH,BH];by_cases hi:i<(if p<4 then p else 4)
  .rw[AW hi,AW (show i<(if p<0 then 0 else if p<4 then p else 4) by grind)];obtain⟨r,E,G,I⟩:=lZ a i;rw[E,G,AB,AB,BK,BK];cases r.2 with
   |false=>exact⟨_,rfl,rfl,a⟩|true=>
    grind[BL,Aq]
  .rw[AT hi,AT (show ¬i<(if p<0 then 0 else if p<4 then p else 4) by grind)];exact⟨_,rfl,rfl,a⟩
theorem AKh{e:BD}(a:Cw e)(p:Int):∃r,AAq e p=some r/\AJI e p=some r/\Cw r.1:=by
 unfold AAq AJI;rw[KW a,Mo a,AB,AB];exact mH p 4 big 0 e a (by omega) (by omega) (by omega) (by have:=PU;omega)
def aft:Int->List Bu->List Bu|_,[]=>[]|v,f::l=>if f.Seq<=v then aft v l else if f.Seq=v+1 then f::aft (v+1) l else []
def AVt(f:Bu):Prop:=1<=f.Seq/\f.Seq<=1000000/\f.Body.length<=60
theorem APJ:∀(f:Nat) (s:List UInt8) (i:Int),∀x∈frs f s i,AVt x
 |0,s,i,x,c=>by simp[frs]at c|f+1,s,i,x,c=>by
  unfold frs at c;split at c
  .rename_i h;rcases List.mem_cons.1 c with e|e
   .rw[e];unfold Tg at h ⊢;split at h
    .rename_i hi;rw[AW hi];rcases Pg (s.drop i.toNat) i with ⟨q,b,a,y,g⟩|⟨j,g⟩
     .rw[g];exact⟨a.1.1,a.1.2,a.2.2⟩
     .rw[g]at h;simp at h
    .simp at h
   .exact APJ f s _ x e
  .simp at c
theorem Xg(s:List UInt8):∀x∈Eg s,AVt x:=APJ _ _ _
theorem aB:∀(l:List Bu) (v:Int),(aft v l).length<=l.length
 | [],v=>by simp[aft]|f::l,v=>by
  unfold aft;have:=aB l v;have:=aB l (v+1)
  grind
theorem px:∀(l:List Bu) (v:Int),∀x∈aft v l,x∈l
 | [],v,x,a=>by simp[aft]at a|f::l,v,x,a=>by
  unfold aft at a;have c:=px l v x;have e:=px l (v+1) x
  grind
theorem AGM{l:List Bu}(E:l.length<=1048576)(y:∀f∈l,AVt f){p:Int}(B:0<=p/\p<=1000000):AJJ l p=some (aft p l):=by
 have hlim:lim=268435456:=rfl;unfold AJJ;refine(DA (n:=l.length) (fun i (v:Int×List Bu)=>(v.1,v.2,(i:Int))) (fun i v=>v.2.length<=i/\0<=v.1/\v.1<=1000000) (fun i v=>some (v.2++aft v.1 (l.drop i))) (by omega) ?_ (v:=(p,[])) (by simpa using B)).trans (by simp);rintro L i ⟨v,acc⟩ ⟨q,a,c⟩ hi j;unfold AAt iB iC;dsimp only at q a c ⊢;simp only[dec_lt,AU];rcases Ab i l.length with h|h
 .obtain⟨G,H,I⟩:=y _ (Ao h);rw[decide_eq_true h,BL,BG h,AB,AB,AB,AB,DR h,Bp h (by omega),BH,Aq (by omega) (by omega)];unfold aft;by_cases e:l[i].Seq<=v
  .rw[AW e,AW e];exact j (v,acc) ⟨by dsimp only;omega,a,c⟩ h
  .rw[AT e,AT e];by_cases g:l[i].Seq=v+1
   .rw[AW g,show (l[i].Seq-1 != v)=false by rw[bne_eq_false_iff_eq];omega,BO,B4 (by simp only[AJ,AS];omega)];have:=j (l[i].Seq,acc++[l[i]]) ⟨by simp;omega,by dsimp only;omega,by dsimp only;omega⟩ h;rw[this,g];simp
   grind[BL]
 .rw[decide_eq_false (by omega),BO,A9 h];simp[aft]
theorem AFF{l:List Bu}(E:l.length<=1048576)(y:∀f∈l,AVt f){p:Int}(B:0<=p/\p<=1000000):AII l p=some (aft p l):=by
 have hlim:lim=268435456:=rfl;unfold AII;refine(DA (n:=l.length) (fun i (v:Int×List Bu)=>(v.2,v.1,(i:Int))) (fun i v=>v.2.length<=i/\0<=v.1/\v.1<=1000000) (fun i v=>some (v.2++aft v.1 (l.drop i))) (by omega) ?_ (v:=(p,[])) (by simpa using B)).trans (by simp);rintro L i ⟨v,acc⟩ ⟨q,a,c⟩ hi g;unfold z6 fE fF;dsimp only at q a c ⊢;simp only[dec_lt,AU];rcases Ab i l.length with h|h
 .obtain⟨G,H,I⟩:=y _ (Ao h);rw[decide_eq_true h,BL,BG h,AB,DR h,Bp h (by omega),BH,Aq (by omega) (by omega)];unfold aft;by_cases e:l[i].Seq<=v
  .rw[AW e,AW e];exact g (v,acc) ⟨by dsimp only;omega,a,c⟩ h
  .rw[AT e,AT e];by_cases j:l[i].Seq=v+1
   .rw[AW j,show (l[i].Seq != v+1)=false by rw[bne_eq_false_iff_eq];omega,BO,B4 (by simp only[AJ,AS];omega)];have:=g (v+1,acc++[l[i]]) ⟨by simp;omega,by dsimp only;omega,by dsimp only;omega⟩ h;rw[this];simp
   grind[BL]
 .rw[decide_eq_false (by omega),BO,A9 h];simp[aft]
def notes:List Bu->List Bo| []=>[]|f::l=>if (NA f.Body).2=true then (NA f.Body).1::notes l else []
theorem Ya:∀l,(notes l).length<=l.length
 | []=>by simp[notes]|f::l=>by
  unfold notes;have:=Ya l;split<;>simp<;>omega
theorem og{l:List Bu}(a:l.length<=1048576){G:List UInt8->AA (Bo×Bool)}(hG:∀f∈l,G f.Body=some (NA f.Body)){F:(List Bo×Int->AA (List Bo))->List Bo×Int->AA (List Bo)}
 (hF:∀L acc i,F L (acc,i)=br (decide (i<(l.length:Int))) (bd (at? l i) fun x=>bd (G x.Body) fun y=>br (!y.2) (some acc) (gd (acc.length+[y.1].length<=lim) (L (acc++[y.1],w64 (i+1))))) (some acc)) :
 A3 F big ([],0)=some (notes l):=by
 refine(DA (n:=l.length) (fun i (v:List Bo)=>(v,(i:Int))) (fun i v=>v.length<=i) (fun i v=>some (v++notes (l.drop i))) (by omega) ?_ (v:=[]) (by simp)).trans (by simp)
 grind[BG,AB,DR,Bp,CJ,notes,B4,lim]
theorem uj{l:List Bu}(e:l.length<=1048576)(a:∀f∈l,f.Body.length<=1048576):AIF l=some (notes l):=by
 unfold AIF;exact og e (G:=nB) (fun f c=>Wu (a f c)) fun L acc i=>by unfold zw eZ;simp only[AU]
theorem s4{l:List Bu}(e:l.length<=1048576)(a:∀f∈l,f.Body.length<=1048576):AIH l=some (notes l):=by
 unfold AIH;exact og e (G:=zK) (fun f c=>s7 (a f c)) fun L acc i=>by unfold zx eo;simp only[AU]
theorem pw{s:Br}{k:Int}{r:AF×Int×Bool}(h:Qx s k=some r):0<=r.2.1/\r.2.1<=1000000:=by
 unfold Qx at h;rw[Rs,AB,HR,AB,BK]at h;cases a:Ii (Ir s k) with
 |false=>rw[a,BO]at h;cases h;decide
 |true=>
  have j:=R5.1 a;rw[a,BL,B4 j.2]at h;obtain⟨q,g,y,c⟩:=So (s:=List.take (Ir s k).Safe.toNat (Ir s k).Data) (by rw[List.length_take];omega);rw[g,AB]at h;cases h;cases e:q.2.2 with
  |false=>rw[c.no e];decide|true=>
   have B:=(c.yes e).2.2
   grind[PC,CQ,zm,VT,BH,AU]
def Wj(s:Br)(n:Int)(q:AF×Int×Bool):AF×Int×Bool:=
 if NI s=true/\¬n<0 then ((Ij (notes (aft q.2.1 (Eg s.Log.Data))) q.1).1,q.2.1+(notes (aft q.2.1 (Eg s.Log.Data))).length,true) else (Lk,0,false)
structure ai(s:Br)(n:Int)(q:AF×Int×Bool):Prop where
 sn:eP s=some n
 im:ZI s=some n
 sr:Qx s n=some q
 ir:Qy s n=some q
 fit:By q.1
 lo:0<=q.2.1
 hi:q.2.1<=1000000
theorem AZw(s:Br):∃n q,ai s n q:=by
 obtain⟨n,c,e,_⟩:=ag s;obtain⟨q,q1,g,h⟩:=K0 s n;obtain⟨a,b⟩:=pw q1;exact⟨n,q,c,e,q1,g,h,a,b⟩
theorem recovered{s:Br}(j:s.Log.Data.length<=1048576){n:Int}{q:AF×Int×Bool}(h:ai s n q):AJK s=some (Wj s n q)/\AAy s=some (Wj s n q)/\By (Wj s n q).1:=by
 have E:=M0 s.Log.Data;have a:=Xg s.Log.Data;have y:=aB (Eg s.Log.Data) q.2.1;have I:=Ya (aft q.2.1 (Eg s.Log.Data));have e:∀f∈aft q.2.1 (Eg s.Log.Data),f.Body.length<=1048576:=fun f B=>by have:=(a f (px _ _ f B)).2.2;omega
 have H:=h.lo;have G:=h.hi;unfold AJK AAy iD iJ Wj;simp only[h.sn,h.im,h.sr,h.ir,AB,QD,WH,AU,Rq j,RO j];rw[AGM (by omega) a ⟨h.lo,h.hi⟩,AFF (by omega) a ⟨h.lo,h.hi⟩,AB,AB,uj (by omega) e,s4 (by omega) e,AB,AB,UD h.fit (by omega),Tz h.fit (by omega),AB,Aq (by omega) (by omega)];cases e:NI s with
 |false=>exact⟨rfl,rfl,Kz⟩|true=>
  by_cases c:n<0
  .rw[decide_eq_true c,AT (fun g=>g.2 c)];exact⟨rfl,rfl,Kz⟩
  .rw[decide_eq_false c,AW ⟨rfl,c⟩];exact⟨rfl,rfl,(Ob _ h.fit).1⟩
def used:Int->Int->List Bu->Int|_,e,[]=>e|v,e,f::l=>if f.Seq<=v then used v f.Next l else if f.Seq=v+1/\(NA f.Body).2=true then used (v+1) f.Next l else e
def lN(t:Int):Int->Int->List Bu->Int|_,e,[]=>e|v,e,f::l=>if f.Seq<=v then lN t v f.Next l else if f.Seq=v+1/\f.Seq<=t then lN t (v+1) f.Next l else e
theorem lO:∀(l:List Bu) (v e:Int),lN (v+(notes (aft v l)).length) v e l=used v e l
 | [],v,e=>rfl|f::l,v,e=>by
  unfold lN used;unfold aft;by_cases a:f.Seq<=v
  .rw[AW a,AW a,AW a,lO l]
  .rw[AT a,AT a,AT a];by_cases c:f.Seq=v+1
   .rw[AW c];unfold notes;by_cases h:(NA f.Body).2=true
    .rw[AW h,AJ,AW (show _/\_ from ⟨c,by omega⟩),AW (show _/\(NA f.Body).2=true from ⟨c,h⟩),<-lO l (v+1)];congr 1;omega
    .grind
   .rw[AT c,AT (fun g=>c g.1),AT (fun g=>c g.1)]
def pf(s:Br)(n:Int)(q:AF×Int×Bool):Int:=if NI s=true/\¬n<0 then used q.2.1 0 (Eg s.Log.Data) else 0
theorem ANZ{s:Br}(Q:s.Log.Data.length<=1048576){n:Int}{q:AF×Int×Bool}(h:ai s n q):AAv s=some (pf s n q):=by
 have O:=M0 s.Log.Data;have B:=Xg s.Log.Data;have G:=h.lo;have E:=h.hi;unfold AAv iE pf;simp only[h.sn,h.sr,AB,QD,AU,Rq Q];have key:A3 (iG (Eg s.Log.Data)) big (q.2.1,0,0)=some (used q.2.1 0 (Eg s.Log.Data)):=by
  generalize Eg s.Log.Data=l at *;refine(DA (n:=l.length) (fun i (v:Int×Int)=>(v.1,v.2,(i:Int))) (fun i v=>0<=v.1/\v.1<=1000000) (fun i v=>some (used v.1 v.2 (l.drop i))) (by omega) ?_ (v:=(q.2.1,0)) ⟨G,E⟩).trans (by simp);rintro L i ⟨v,e⟩ ⟨a,c⟩ hi J;unfold iG iF AAw;dsimp only at a c ⊢;simp only[dec_lt,AU];rcases Ab i l.length with h|h
  .obtain⟨X,Y,Z⟩:=B _ (Ao h);rw[decide_eq_true h,BL];simp only[BG h,AB];rw[DR h,Bp h (by omega),BH,Aq (by omega) (by omega),Wu (by omega)];unfold used;by_cases H:l[i].Seq<=v
   .rw[AW H,AT (by omega),show (l[i].Seq==v+1)=false by rw[beq_eq_false_iff_ne];omega,BO];exact J (v,l[i].Next) ⟨a,c⟩ h
   .rw[AT H];by_cases I:l[i].Seq=v+1
    .rw[AT (by omega),show (l[i].Seq==v+1)=true by rw[beq_iff_eq];omega,BL,AB,BK,CJ];by_cases j:(NA l[i].Body).2=true
     .rw[AW j,AW ⟨I,j⟩];exact J (v+1,l[i].Next) ⟨by dsimp only;omega,by dsimp only;omega⟩ h
     .rw[AT j,AT (fun g=>j g.2)]
    .rw[AW (by omega),AT (fun g=>I g.1)]
  .rw[decide_eq_false (by omega),BO,A9 h];simp[used]
 rw[key];cases S:NI s with
 |false=>rfl|true=>
  by_cases y:n<0
  .rw[decide_eq_true y,AT (fun g=>g.2 y)];rfl
  .rw[decide_eq_false y,AW ⟨rfl,y⟩];rfl
theorem ALO{s:Br}(O:s.Log.Data.length<=1048576){n:Int}{q:AF×Int×Bool}(h:ai s n q):AAz s=some (pf s n q):=by
 have Y:=M0 s.Log.Data;have y:=Xg s.Log.Data;have E:=h.lo;have B:=h.hi;unfold AAz pf;simp only[(recovered O h).2.1,h.im,h.ir,AB,Ch,Hf,RO O];by_cases j:NI s=true/\¬n<0
 .have G:(Wj s n q).2=(q.2.1+(notes (aft q.2.1 (Eg s.Log.Data))).length,true):=by unfold Wj;rw[AW j]
  rw[G,AW j];dsimp only;rw[BK,BL,<-lO];have Z:=Ya (aft q.2.1 (Eg s.Log.Data));have X:=aB (Eg s.Log.Data) q.2.1;have S:(Wj s n q).2.1=q.2.1+(notes (aft q.2.1 (Eg s.Log.Data))).length:=by rw[G]
  generalize q.2.1+((notes (aft q.2.1 (Eg s.Log.Data))).length:Int)=t at *;generalize Wj s n q=r at *;generalize Eg s.Log.Data=l at *;refine(DA (n:=l.length) (fun i (v:Int×Int)=>(v.1,v.2,(i:Int))) (fun i v=>0<=v.1/\v.1<=1000000) (fun i v=>some (lN t v.1 v.2 (l.drop i))) (by omega) ?_ (v:=(q.2.1,0)) ⟨E,B⟩).trans (by simp);rintro L i ⟨v,e⟩ ⟨a,c⟩ hi Q;unfold AA0 iK iL iM;dsimp only at a c ⊢;simp only[dec_lt,AU];rcases Ab i l.length with h|h
  .obtain⟨o1,o2,o3⟩:=y _ (Ao h);rw[decide_eq_true h,BL];simp only[BG h,AB];rw[DR h,Bp h (by omega),BH,Aq (by omega) (by omega),S];unfold lN;by_cases H:l[i].Seq<=v
   .rw[AW H,AT (by omega)];exact Q (v,l[i].Next) ⟨a,c⟩ h
   .rw[AT H,AW (by omega)];by_cases I:l[i].Seq=v+1
    .rw[show (l[i].Seq != v+1)=false by rw[bne_eq_false_iff_eq];omega,BO,BH];by_cases J:l[i].Seq<=t
     .rw[AT (by omega),AW ⟨I,J⟩];exact Q (v+1,l[i].Next) ⟨by dsimp only;omega,by dsimp only;omega⟩ h
     .rw[AW (by omega),AT (fun g=>J g.2)]
    .rw[show (l[i].Seq != v+1)=true by rw[bne_iff_ne];omega,BL,BL,AT (fun g=>I g.1)]
  .rw[decide_eq_false (by omega),BO,A9 h];simp[lN]
 .rw[show Wj s n q=(Lk,0,false) by unfold Wj;rw[AT j],AT j];rfl
def lL(a:B3)(p:Int):B3×Bool:=if Ii a=true/\inB p 0 a.Data.length=true then (⟨a.Data.take p.toNat,if a.Safe<p then a.Safe else p⟩,true) else (a,false)
theorem ANY(a:B3)(p:Int):n8 a p=some (lL a p):=by
 grind[n8,iH,lL,HR,AB,GL,AU,Ii,inB,BL,BO,B4,WQ]
theorem ALN(a:B3)(p:Int):n9 a p=some (lL a p):=by
 grind[n9,iN,lL,IJ,AB,E9,AU,Ii,inB,BL,BO,B4]
theorem ANp(a:B3)(p:Int):(lL a p).1.Data.length<=a.Data.length:=by grind[lL]
def mR(s:Br):Bool:=(s.Log.Safe==(s.Log.Data.length:Int))&&((s.EJ.Safe==(s.EJ.Data.length:Int))&&(s.Odd.Safe==(s.Odd.Data.length:Int)))
theorem ANQ(s:Br):AJL s=some (mR s):=by
 unfold AJL Vv AAu mR;simp only[AB,AU,Cr]
theorem ALF(s:Br):AJM s=some (mR s):=by
 unfold AJM Vw mR;simp only[AU,Cr]
def AaB:Br:=⟨⟨[],0⟩,⟨[],0⟩,⟨[],0⟩⟩
def AKe:BD:=⟨Lk,AaB,0,[]⟩
theorem Z3:Cw AKe:=⟨Kz,by decide,by decide,by decide,by decide⟩
def Mm(s:Br)(n:Int)(q:AF×Int×Bool):BD×Bool:=
 if (Wj s n q).2.2=true/\mR s=true then (⟨(Wj s n q).1,⟨Zw (lL s.Log (pf s n q)).1,s.EJ,s.Odd⟩,(Wj s n q).2.1,[]⟩,true) else (AKe,false)
theorem AaG{s:Br}(a:s.Log.Data.length<=1048576)(j:s.EJ.Data.length<=1048576)(y:s.Odd.Data.length<=1048576){n:Int}{q:AF×Int×Bool}(h:ai s n q):AAx s=some (Mm s n q)/\AA1 s=some (Mm s n q)/\Cw (Mm s n q).1:=by
 obtain⟨c,e,g⟩:=recovered a h;have B:=ANp s.Log (pf s n q);unfold AAx AA1 iI iO Mm;simp only[c,e,AB,ANQ,ALF,AU,ANZ a h,ALO a h,ANY,ALN,LR,Yq,YH];cases (Wj s n q).2.2 with
 |false=>exact⟨rfl,rfl,Z3⟩|true=>
  cases mR s with
  |false=>exact⟨rfl,rfl,Z3⟩|true=>exact⟨rfl,rfl,by rw[AW ⟨rfl,rfl⟩];exact⟨g,by dsimp only;rw[UK];omega,j,y,by simp⟩⟩
def AJx(a:B3)(p:Int):Int:=if p<0 then a.Safe else if p<a.Data.length-a.Safe then a.Safe+p else a.Data.length
def WR(a:B3)(p:Int):B3:=if Ii a=true then ⟨a.Data.take (AJx a p).toNat,AJx a p⟩ else a
theorem AW6(b:Int):Uq 0 b=some (if 0<b then b else 0):=by
 unfold Uq;rw[BH];grind
theorem AZU(p:Int){m:Int}(a:0<=m):iA p 0 m=some (if p<0 then 0 else if p<m then p else m):=by
 unfold iA;congr 1
 grind
theorem ANS(a:B3)(p:Int):nz a p=some (WR a p):=by
 grind[nz,WR,HR,AB,BK,R5,BL,WQ,AW6,Aq,AJx,B4]
theorem ALH(a:B3)(p:Int):n0 a p=some (WR a p):=by
 grind[n0,WR,IJ,AB,BK,R5,BL,Aq,AZU,AJx,B4]
theorem YR(a:B3)(p:Int):(WR a p).Data.length<=a.Data.length:=by grind[WR]
def I1(s:Br)(l:List Int):Br:=⟨WR s.Log (l.getD 0 0),WR s.EJ (l.getD 1 0),WR s.Odd (l.getD 2 0)⟩
theorem tH(l:List Int)(i:Nat):Vy l i=some (l.getD i 0):=by
 grind[Vy,BL,BG,AB,BO]
theorem Zo(s:Br)(l:List Int):AAj s l=some (I1 s l):=by
 unfold AAj I1;rw[show Vy l 0=some (l.getD 0 0) from tH l 0,show Vy l 1=some (l.getD 1 0) from tH l 1,show Vy l 2=some (l.getD 2 0) from tH l 2];simp only[AB,ANS]
theorem Aac(l:List Int):List.take (List.replicate (Int.toNat 3) 0).length l++List.drop l.length (List.replicate (Int.toNat 3) 0)=[l.getD 0 0,l.getD 1 0,l.getD 2 0]:=by
 match l with
 | []=>rfl| [a]=>rfl| [a,b]=>rfl|a::b::c::m=>simp[List.getD]
theorem ZT(s:Br)(l:List Int):AAk s l=some (I1 s l):=by
 unfold AAk I1;rw[Aac,show at? [l.getD 0 0,l.getD 1 0,l.getD 2 0] 0=some (l.getD 0 0) from rfl,show at? [l.getD 0 0,l.getD 1 0,l.getD 2 0] 1=some (l.getD 1 0) from rfl,show at? [l.getD 0 0,l.getD 1 0,l.getD 2 0] 2=some (l.getD 2 0) from rfl];simp only[AB,ALH]
theorem oE{e:BD}(a:Cw e)(l:List Int):(I1 e.Bl l).Log.Data.length<=1048576/\(I1 e.Bl l).EJ.Data.length<=1048576/\(I1 e.Bl l).Odd.Data.length<=1048576:=
 ⟨A1 (YR _ _) a.log,A1 (YR _ _) a.even,A1 (YR _ _) a.odd⟩
end Lv.P
