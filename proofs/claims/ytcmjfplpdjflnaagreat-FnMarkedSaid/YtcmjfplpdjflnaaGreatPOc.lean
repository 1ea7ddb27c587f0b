/- Plain laws about what the program computes. -/
import Derived.Test.YtcmjfplpdjflnaaGreatPMc
noncomputable section
set_option linter.unusedVariables false
set_option linter.unusedSimpArgs false
set_option linter.unusedSectionVars false
open Bool renaming not_eq_false->Jj,not_true->Br,true_and->DA
open List renaming drop_eq_nil_of_le->A5,getElem_mem->As,length_cons->AH,length_nil->AN
open Nat renaming le_trans->Aw,lt_or_ge->AV
namespace Lv.P
open Go (IntKind BinOp UnOp)
end Lv.P
namespace Lv.P
open Lv Go
def Rp(a:B0):B0:=if Gb a=true then ⟨a.Data,a.Data.length⟩ else a
theorem QS(a:B0):pQ a=some (Rp a):=by
 grind[pQ,ig,Rp,GQ,AB,Bn,AR]
theorem qF(a:B0):zf a=some (Rp a):=by
 unfold zf Rp;rw[G5,AB,BP,Bn];split<;>rfl
def MR(e:Af):Af×List C6:=
 if Ev e=false then (e,[]) else (⟨(IQ e.Laid e.Bb).1,⟨Rp e.A9.Log,e.A9.FH,e.A9.Odd⟩,e.Seq,[]⟩,(IQ e.Laid e.Bb).2)
theorem UD{e:Af}(a:B5 e):ij e=some (MR e):=by
 unfold ij MR;rw[HG a,AB,GR a,AB,BP,Bn];by_cases c:Ev e=true
 .rw[AX c,AU (by simp[c]),RO a.EB a.laid,AB,QS,AB]
 grind
theorem OJ(a:B0):(Rp a).Data=a.Data:=by unfold Rp;split<;>rfl
theorem Zv{e:Af}(a:B5 e):B5 (MR e).1/\(MR e).2.length<=1048576/\∀r∈(MR e).2,r.Ids.length<=1048576:=by
 unfold MR;split
 .grind
 .obtain⟨c,j,g⟩:=NV e.Laid a.EB;have q:=a.laid;exact⟨⟨c,by dsimp only;rw[OJ];exact a.log,a.even,a.odd,by simp⟩,by dsimp only;omega,fun r h=>by have:=g r h;omega⟩
theorem AKb{e:Af}{q:B1}(h:(NF e q).2=0):Ev (NF e q).1=true/\Ev e=true/\KZ q=true/\(NF e q).1.Bb=e.Bb/\(NF e q).1.Laid=e.Laid++[q]/\(NF e q).1.Seq=e.Seq+1:=by
 unfold NF at h ⊢;by_cases a:Ev e=false
 .rw[AX a]at h;cases h
 rw[AU a]at h ⊢;rw[Jj]at a;by_cases c:KZ q=false
 .rw[AX c]at h;cases h
 rw[AU c]at h ⊢;rw[Jj]at c;by_cases j:e.Seq=1000000
 .rw[AX j]at h;cases h
 rw[AU j]at h ⊢;by_cases g:e.Laid.length=8\/(FK e.A9.Log (frB (w64 (e.Seq+1)) (HK q))).2=false
 .rw[AX g]at h;cases h
 rw[AU g];have B:=J9 a;have ew:w64 (e.Seq+1)=e.Seq+1:=A6 (by omega) (by omega);rw[ew]at g ⊢;have y:Gb (FK e.A9.Log (frB (e.Seq+1) (HK q))).1=true:=by
  grind[FK,Fs]
 grind[Ev,CP,II]
def AGg(e:Af)(q:B1):Af×C6:=
 if (NF e q).2≠0 then (e,⟨(NF e q).2,[]⟩) else ((MR (NF e q).1).1,(MR (NF e q).1).2.getD (e.Laid.length) ⟨0,[]⟩)
theorem AFE{e:Af}(a:B5 e){q:B1}(h:(NF e q).2=0):at? (MR (NF e q).1).2 (w64 (((MR (NF e q).1).2.length:Int)-1))=some ((MR (NF e q).1).2.getD (e.Laid.length) ⟨0,[]⟩)/\(MR (NF e q).1).2.length=e.Laid.length+1:=by
 obtain⟨c,E,G,H,g,I⟩:=AKb h;have j:=ky a q;have y:(MR (NF e q).1).2.length=e.Laid.length+1:=by
  unfold MR;rw[AU (by simp[c])];dsimp only;rw[(NV _ j.EB).2.1,g];simp
 refine⟨?_,y⟩;have B:=a.laid
 grind[A6,BH]
theorem AMR{e:Af}(a:B5 e)(q:B1):AIR e q=some (AGg e q):=by
 grind[AIR,AGg,YE,AB,Bn,NF,AFE,UD,ky]
def RM(a b:Ab):Bool:=EZ (·==·) a.AY b.AY&&(a.CX==b.CX&&(a.Room==b.Room&&(a.BC==b.BC&&(a.CQ==b.CQ&&(a.B3==b.B3&&(a.Rest==b.Rest&&(a.Cb==b.Cb&&a.C5==b.C5)))))))
theorem mU{a b:Ab}(c:a.AY.length<2 ^ 62):pG a b=some (RM a b):=by
 unfold pG I1 RM;rw[JC c,AB];simp only[AR,Cf]
theorem kb{a b:Ab}(c:a.AY.length<2 ^ 62):LQ a b=some (RM a b):=by
 unfold LQ DS RM;rw[Oe c,AB];simp only[AR,Cf]
def m7(a b:Aq):Bool:=Gx a&&(Gx b&&EZ eqP (Ek a) (Ek b))
theorem mV{a b:Aq}(c:Cz a)(e:Cz b):pH a b=some (m7 a b):=by
 have g:=IF c;unfold pH Sf m7;simp only[HD c,HD e,MU c,MU e,PO (show (Ek a).length<2 ^ 62 by omega),AB,AR,Cf]
theorem kf{a b:Aq}(c:Cz a)(e:Cz b):LR a b=some (m7 a b):=by
 have g:=IF c;unfold LR Hc m7;simp only[ID c,ID e,Og c,Og e,aq (show (Ek a).length<2 ^ 62 by omega),AB,AR,Cf]
def AXA(a b:BE):Bool:=a.Total==b.Total&&(a.Dh==b.Dh&&(a.Eg==b.Eg&&(a.Ff==b.Ff&&(a.Fw==b.Fw&&true))))
def yQ(a b:Ae):Bool:=LN a&&(LN b&&(AXA a.AY b.AY&&(EZ eqE a.Row b.Row&&m7 a.By b.By)))
theorem mT{a b:Ae}(c:EE a)(e:EE b):pI a b=some (yQ a b):=by
 have g:=c.1;unfold pI Nu yQ AXA;simp only[NK c,NK e,RU (show a.Row.length<2 ^ 62 by omega),mV c.2 e.2,AB,AR,Cf]
theorem ka{a b:Ae}(c:EE a)(e:EE b):LP a b=some (yQ a b):=by
 have g:=c.1;unfold LP FD yQ AXA;simp only[Qz c,Qz e,ak (show a.Row.length<2 ^ 62 by omega),kf c.2 e.2,AB,AR,Cf]
def AUr(x y:AQ):Bool:=x.Id==y.Id&&(x.Aa==y.Aa&&(x.Bl==y.Bl&&(x.BC==y.BC&&(x.Cs==y.Cs&&(x.Since==y.Since&&(x.Av==y.Av&&(x.State==y.State&&(x.Ci==y.Ci&&(x.C0==y.C0&&true)))))))))
def PC(a b:AE):Bool:=
 DE a&&(DE b&&(RM a.AS b.AS&&(a.Now==b.Now&&(a.Av==b.Av&&(EZ AUr a.AG b.AG&&(EZ (·==·) a.BA b.BA&&(EZ (·==·) a.A4 b.A4&&EZ yQ a.AI b.AI)))))))
theorem S6{a b:AE}(c:Bk a)(g:Bk b):JH a b=some (PC a b):=by
 have y:=c.Dj;have B:=c.CJ;have E:=c.EL;have G:=c.todo;have H:=c.GV;have j:CM a.AI b.AI=some (EZ yQ a.AI b.AI):=by
  unfold CM;refine TQ (by omega) ?_ ?_
  .intro L i h e;unfold CH;rw[B7 h,BJ,BH h,AB,BH e,AB,ka (c.Dq _ (As h)) (g.Dq _ (As e)),AB]
  .intro L;unfold CH Cn;rw[Cl,BT,AR]
 have q:EO a.AG b.AG=some (EZ AUr a.AG b.AG):=by
  unfold EO;refine TQ (by omega) ?_ ?_
  .intro L i h e;unfold D8;rw[B7 h,BJ,BH h,AB,BH e,AB];rfl
  .intro L;unfold D8 FY;rw[Cl,BT,AR]
 unfold JH DR PC;simp only[Fh c,Fh g,kb (show a.AS.AY.length<2 ^ 62 by omega),q,j,Oe (show a.BA.length<2 ^ 62 by omega),Oe (show a.A4.length<2 ^ 62 by omega),AB,AR,Cf]
theorem rK{α:Type}{eq:α->α->Bool}{a b:List α}{F:(Int->AA Bool)->Int->AA Bool}{E:Bool}(c:a.length<2 ^ 63)(e:a.length=b.length)
 (step:∀L i (h:i<a.length) (j:i<b.length),F L (i:Int)=br (!(eq a[i] b[i])) (some false) (L (w64 ((i:Int)+1)))) (stop:∀L,F L (a.length:Int)=some E):BB F big 0=some (EZ eq a b&&E):=by
 refine(C9 (n:=a.length) (fun i (_:Unit)=>(i:Int)) (fun _ _=>True) (fun i _=>some (EZ eq (a.drop i) (b.drop i)&&E)) c ?_ (v:=()) trivial);intro L i _ _ hi g;rcases AV i a.length with h|h
 .rw[step L i h (by omega),Bg h c,Dc h,Dc (l:=b) (i:=i) (by omega),EZ,BP];cases eq a[i] b[i] with|true=>rw[BJ,g () trivial h];rfl|false=>rfl
 .obtain rfl:i=a.length:=by omega
  rw[stop,List.drop_length,A5 (by omega)];rfl
theorem AFt{a b:Ab}:RM a b=true↔a=b:=by
 unfold RM;obtain⟨s,c,e,a3,a4,g,h,j,q⟩:=a;obtain⟨t,y,B,E,G,H,I,J,L⟩:=b
 grind[Hs,Ab.mk.injEq]
theorem JB{a b:AE}(c:Bk a)(E:Bk b):UW a b=some (PC a b):=by
 have O:=c.Dj;have Q:=c.CJ;have S:=c.EL;have X:=c.todo;have Y:=c.GV;have G:IN a b true=some false:=rfl;have J:DE a=true->DE b=true->RM a.AS b.AS=true->a.AG.length=b.AG.length->IN a b false=some (EZ AUr a.AG b.AG&&EZ yQ a.AI b.AI):=by
  intro gA gB gR gp;have B:a.AI.length=b.AI.length:=by
   have j:=(IV.1 gA).EL;have e:=(IV.1 gB).EL;rw[j,e,AFt.1 gR]
  unfold IN;rw[BT];refine rK (by omega) gp ?_ ?_
  .intro L i h g;unfold Wi;rw[B7 h,BJ,BH h,AB,BH g,AB];rfl
  .intro L;unfold Wi SX;rw[Cl,BT,AR,<-Bool.and_true (EZ yQ a.AI b.AI)];refine rK (by omega) B ?_ ?_
   .intro L i h g;unfold Ps;rw[B7 h,BJ,BH h,AB,BH g,AB,mT (c.Dq _ (As h)) (E.Dq _ (As g)),AB]
   .intro L;unfold Ps gm;rw[Cl,BT,AR]
 unfold UW PC;rw[GK c,AB,GK E,AB,mU (by omega),AB,JC (by omega),AB,JC (by omega),AB];simp only[AR,G,BP];cases gA:DE a
 .rfl
 cases gB:DE b
 .rfl
 cases gR:RM a.AS b.AS
 .rfl
 simp only[BJ,DA];by_cases n:a.Now=b.Now
 .by_cases t:a.Av=b.Av
  .by_cases p:a.AG.length=b.AG.length
   .have j:(a.Now != b.Now)=false:=by simp[n]
    have e:(a.Av != b.Av)=false:=by simp[t]
    have q:((a.AG.length:Int) != (b.AG.length:Int))=false:=by simp[p]
    have H:(a.Now==b.Now)=true:=by simp[n]
    have y:(a.Av==b.Av)=true:=by simp[t]
    rw[j,e,q,H,y,BT,BT,BT,DA,DA];cases EZ (·==·) a.BA b.BA
    .simp
    .cases EZ (·==·) a.A4 b.A4
     .simp[G]
     .rw[BJ,Br,J gA gB gR p,DA,DA]
   .have q:((a.AG.length:Int) != (b.AG.length:Int))=true:=by simp;omega
    have I:EZ AUr a.AG b.AG=false:=mK p;rw[q,BJ,Vv,Vv,I];simp
  .have e:(a.Av != b.Av)=true:=by simpa using t
   have y:(a.Av==b.Av)=false:=by simpa using t
   rw[e,BJ,Vv,y];simp
 grind[BJ]
theorem Qa(s:Bo):∃c,K7 s=some c/\aX s=some c/\(c = -1\/c=0\/c=1):=by
 obtain⟨r,h,j,_⟩:=EW s 0;obtain⟨r',q,y,_⟩:=EW s 1;unfold K7 aX Sb iC Wn;rw[h,j,q,y,AB,AB,AB,AB];cases e:r.2.2<;>cases g:r'.2.2<;>simp only[BP,BJ,BT,AR,e,g,Br,Bool.not_false]
 .grind
 .exact⟨_,rfl,rfl,by decide⟩
 .exact⟨_,rfl,rfl,by decide⟩
 .by_cases a:r.2.1>=r'.2.1
  .rw[show decide (r.2.1>=r'.2.1)=true from decide_eq_true a,show decide (r'.2.1>r.2.1)=false from decide_eq_false (by omega)];exact⟨_,rfl,rfl,by decide⟩
  .rw[show decide (r.2.1>=r'.2.1)=false from decide_eq_false a,show decide (r'.2.1>r.2.1)=true from decide_eq_true (by omega)];exact⟨_,rfl,rfl,by decide⟩
def VV(s:Bo)(k:Int)(a:B0):Bo:=if (k.tmod 2==0)=true then ⟨s.Log,a,s.Odd⟩ else ⟨s.Log,s.FH,a⟩
theorem RR(s:Bo)(k:Int)(a:B0):AH3 s k a=some (VV s k a):=by unfold AH3 VV;rw[Bn,AR,AR];split<;>rfl
theorem vL(s:Bo)(k:Int)(a:B0):pX s k a=some (VV s k a):=by unfold pX VV;rw[Bn,AR,AR];split<;>rfl
theorem T8(s:Bo)(l:B0)(k:Int):VV ⟨l,s.FH,s.Odd⟩ k (DQ s k)=⟨l,s.FH,s.Odd⟩:=by unfold VV DQ;split<;>rfl
def Ky(a:B0)(p:Int):B0×Bool:=if Gb a=true/\inB p 0 a.Data.length=true/\a.Safe=a.Data.length then (⟨a.Data.drop p.toNat,(a.Data.length:Int)-p⟩,true) else (a,false)
theorem Zy(a:B0)(p:Int):AIS a p=some (Ky a p):=by
 grind[AIS,XA,Ky,GQ,AB,GN,AR,Bn,Gb,inB,B6,A6]
theorem AKT(a:B0)(p:Int):AH4 a p=some (Ky a p):=by
 grind[AH4,W4,Ky,G5,AB,Fq,AR,Bn,Gb,inB,B6,A6]
theorem AMN{a:B0}{p:Int}(h:(Ky a p).2=false):(Ky a p).1=a:=by unfold Ky at h ⊢;grind
theorem rM(a:B0)(p:Int):(Ky a p).1.Data.length<=a.Data.length:=by unfold Ky;split<;>simp
theorem yE{a:B0}{s:List UInt8}(h:(FK a s).2=false):(FK a s).1=a:=by unfold FK at h ⊢;grind
theorem VZ{e:Af}(a:B5 e)(k:Int):(DQ e.A9 k).Data.length<=1048576:=by unfold DQ;split;exact a.even;exact a.odd
theorem w7{e:Af}(c:B5 e){k:Int}{a:B0}(h:a.Data.length<=1048576):B5 ⟨e.Bb,VV e.A9 k a,e.Seq,e.Laid⟩:=by
 unfold VV;split<;>exact⟨c.EB,c.log,by first|exact h|exact c.even,by first|exact h|exact c.odd,c.laid⟩
theorem UQ{e:Af}(a:B5 e)(p:Int):∃r,Mx e p=some r/\AH5 e p=some r/\B5 r.1:=by
 obtain⟨n,B,E,J⟩:=Qa e.A9;obtain⟨r,G,H,_⟩:=EW e.A9 n;unfold Mx AH5;rw[HG a,dV a,E,GR a,Uc a,GN,Xb,show w64 (4-1)=3 from rfl];simp only[AB,AR];cases I:Ev e with
 |false=>exact⟨(e,false),rfl,rfl,a⟩|true=>
 simp only[Br,BT];by_cases j:(e.Laid.length:Int)>0
 .rw[decide_eq_true j];exact⟨(e,false),rfl,rfl,a⟩
 rw[decide_eq_false j,BT,BT];cases hi:inB p 0 3 with
 |false=>exact⟨(e,false),rfl,rfl,a⟩|true=>
 simp only[Br,BT];unfold Pv Si Nv Sj;rw[BT,B,AB];by_cases q:n<0
 .rw[decide_eq_true q,BJ,BJ];exact⟨(e,false),rfl,rfl,a⟩
 have g:=VZ a (w64 (1-n));have c:=fun s=>ABw (s:=s) g
 simp only[decide_eq_false q,BT,HB,Oh,AB,RR,vL,AR,Jv a.EB,Uf a.EB,Oo (Aw (IX e.Bb e.Seq) (by omega)),c _ (Aw (IX e.Bb e.Seq) (by omega)),QS,qF,G,H,RQ a.log,XU a.log,Zy,AKT,HG a,BP,BJ];have y:∀k,VV e.A9 k (DQ e.A9 k)=e.A9:=fun k=>T8 e.A9 e.A9.Log k
 cases p==0 with
 |true=>exact⟨_,rfl,rfl,w7 a (by simp)⟩|false=>
 rw[BT,BT];cases p==1 with
 |true=>
  rw[BJ,BJ];cases h:(FK (DQ e.A9 (w64 (1-n))) (Et e.Bb e.Seq)).2 with
  |true=>exact⟨_,rfl,rfl,w7 a (aC g)⟩|false=>exact⟨(e,false),rfl,by rw[yE h,y],a⟩
 |false=>
 rw[BT,BT];cases p==2 with
 |true=>exact⟨_,rfl,rfl,w7 a (by rw[OJ];exact g)⟩|false=>
 rw[BT,BT];cases h:(Ky e.A9.Log (RZ r.2.1 0 (Da e.A9.Log.Data))).2 with
 |true=>exact⟨_,rfl,by rw[T8],by dsimp only;rw[T8];exact⟨a.EB,Aw (rM _ _) a.log,a.even,a.odd,a.laid⟩⟩|false=>exact⟨(e,false),rfl,by rw[AMN h],a⟩
theorem AFG(p:Int):jC p 0 4=some (if p<0 then 0 else if p<4 then p else 4):=by
 unfold jC;congr 1
 grind
theorem nZ(p:Int):∀(m n:Nat) (i:Int) (e:Af),B5 e->0<=i->i<=4->4<=(m:Int)+i->m<n->∃r,BB (Jn p) n (i,e)=some r/\BB (W6 p) n (i,e)=some r/\B5 r.1
 |m,0,i,e,a,g,j,h,c=>absurd c (by omega)|m,n+1,i,e,a,g,j,h,c=>by
  rw[Dy,Dy];have H:=fun x B q y=>nZ p (m-1) n (i+1) x B (by omega) q (by omega) y
  generalize BB (Jn p) n=L at *;generalize BB (W6 p) n=M at *;unfold Jn W6 W5 ABD;dsimp only;rw[MN,AFG,AB,AB,AR,BL,BL];by_cases hi:i<(if p<4 then p else 4)
  .rw[AX hi,AX (show i<(if p<0 then 0 else if p<4 then p else 4) by grind)];obtain⟨r,E,G,I⟩:=UQ a i;rw[E,G,AB,AB,BP,BP];cases r.2 with
   |false=>exact⟨_,rfl,rfl,a⟩|true=>
    grind[BJ,A6]
  .rw[AU hi,AU (show ¬i<(if p<0 then 0 else if p<4 then p else 4) by grind)];exact⟨_,rfl,rfl,a⟩
theorem AJu{e:Af}(a:B5 e)(p:Int):∃r,Sk e p=some r/\AH6 e p=some r/\B5 r.1:=by
 unfold Sk AH6;rw[HG a,dV a,AB,AB];exact nZ p 4 big 0 e a (by omega) (by omega) (by omega) (by have:=Qg;omega)
def aft:Int->List Bs->List Bs|_,[]=>[]|v,f::l=>if f.Seq<=v then aft v l else if f.Seq=v+1 then f::aft (v+1) l else []
def AUC(f:Bs):Prop:=1<=f.Seq/\f.Seq<=1000000/\f.Body.length<=60
theorem AN9:∀(f:Nat) (s:List UInt8) (i:Int),∀x∈frs f s i,AUC x
 |0,s,i,x,c=>by simp[frs]at c|f+1,s,i,x,c=>by
  unfold frs at c;split at c
  .rename_i h;rcases List.mem_cons.1 c with e|e
   .rw[e];unfold VB at h ⊢;split at h
    .rename_i hi;rw[AX hi];rcases Qs (s.drop i.toNat) i with ⟨q,b,a,y,g⟩|⟨j,g⟩
     .rw[g];exact⟨a.1.1,a.1.2,a.2.2⟩
     .rw[g]at h;simp at h
    .simp at h
   .exact AN9 f s _ x e
  .simp at c
theorem Y2(s:List UInt8):∀x∈Da s,AUC x:=AN9 _ _ _
theorem bh:∀(l:List Bs) (v:Int),(aft v l).length<=l.length
 | [],v=>by simp[aft]|f::l,v=>by
  unfold aft;have:=bh l v;have:=bh l (v+1)
  grind
theorem rl:∀(l:List Bs) (v:Int),∀x∈aft v l,x∈l
 | [],v,x,a=>by simp[aft]at a|f::l,v,x,a=>by
  unfold aft at a;have c:=rl l v x;have e:=rl l (v+1) x
  grind
theorem AF6{l:List Bs}(E:l.length<=1048576)(y:∀f∈l,AUC f){p:Int}(B:0<=p/\p<=1000000):AH7 l p=some (aft p l):=by
 have hlim:lim=268435456:=rfl;unfold AH7;refine(C9 (n:=l.length) (fun i (v:Int×List Bs)=>(v.1,v.2,(i:Int))) (fun i v=>v.2.length<=i/\0<=v.1/\v.1<=1000000) (fun i v=>some (v.2++aft v.1 (l.drop i))) (by omega) ?_ (v:=(p,[])) (by simpa using B)).trans (by simp);rintro L i ⟨v,acc⟩ ⟨q,a,c⟩ hi j;unfold ABE jD jE;dsimp only at q a c ⊢;simp only[dec_lt,AR];rcases AV i l.length with h|h
 .obtain⟨G,H,I⟩:=y _ (As h);rw[decide_eq_true h,BJ,BH h,AB,AB,AB,AB,Dc h,Bg h (by omega),BL,A6 (by omega) (by omega)];unfold aft;by_cases e:l[i].Seq<=v
  .rw[AX e,AX e];exact j (v,acc) ⟨by dsimp only;omega,a,c⟩ h
  .rw[AU e,AU e];by_cases g:l[i].Seq=v+1
   .rw[AX g,show (l[i].Seq-1 != v)=false by rw[bne_eq_false_iff_eq];omega,BT,B6 (by simp only[AH,AN];omega)];have:=j (l[i].Seq,acc++[l[i]]) ⟨by simp;omega,by dsimp only;omega,by dsimp only;omega⟩ h;rw[this,g];simp
   grind[BJ]
 .rw[decide_eq_false (by omega),BT,A5 h];simp[aft]
theorem AE7{l:List Bs}(E:l.length<=1048576)(y:∀f∈l,AUC f){p:Int}(B:0<=p/\p<=1000000):AHP l p=some (aft p l):=by
 have hlim:lim=268435456:=rfl;unfold AHP;refine(C9 (n:=l.length) (fun i (v:Int×List Bs)=>(v.2,v.1,(i:Int))) (fun i v=>v.2.length<=i/\0<=v.1/\v.1<=1000000) (fun i v=>some (v.2++aft v.1 (l.drop i))) (by omega) ?_ (v:=(p,[])) (by simpa using B)).trans (by simp);rintro L i ⟨v,acc⟩ ⟨q,a,c⟩ hi g;unfold AAU gh gi;dsimp only at q a c ⊢;simp only[dec_lt,AR];rcases AV i l.length with h|h
 .obtain⟨G,H,I⟩:=y _ (As h);rw[decide_eq_true h,BJ,BH h,AB,Dc h,Bg h (by omega),BL,A6 (by omega) (by omega)];unfold aft;by_cases e:l[i].Seq<=v
  .rw[AX e,AX e];exact g (v,acc) ⟨by dsimp only;omega,a,c⟩ h
  .rw[AU e,AU e];by_cases j:l[i].Seq=v+1
   .rw[AX j,show (l[i].Seq != v+1)=false by rw[bne_eq_false_iff_eq];omega,BT,B6 (by simp only[AH,AN];omega)];have:=g (v+1,acc++[l[i]]) ⟨by simp;omega,by dsimp only;omega,by dsimp only;omega⟩ h;rw[this];simp
   grind[BJ]
 .rw[decide_eq_false (by omega),BT,A5 h];simp[aft]
def notes:List Bs->List B1| []=>[]|f::l=>if (OB f.Body).2=true then (OB f.Body).1::notes l else []
theorem Zk:∀l,(notes l).length<=l.length
 | []=>by simp[notes]|f::l=>by
  unfold notes;have:=Zk l;split<;>simp<;>omega
theorem qR{l:List Bs}(a:l.length<=1048576){G:List UInt8->AA (B1×Bool)}(hG:∀f∈l,G f.Body=some (OB f.Body)){F:(List B1×Int->AA (List B1))->List B1×Int->AA (List B1)}
 (hF:∀L acc i,F L (acc,i)=br (decide (i<(l.length:Int))) (bd (at? l i) fun x=>bd (G x.Body) fun y=>br (!y.2) (some acc) (gd (acc.length+[y.1].length<=lim) (L (acc++[y.1],w64 (i+1))))) (some acc)) :
 BB F big ([],0)=some (notes l):=by
 refine(C9 (n:=l.length) (fun i (v:List B1)=>(v,(i:Int))) (fun i v=>v.length<=i) (fun i v=>some (v++notes (l.drop i))) (by omega) ?_ (v:=[]) (by simp)).trans (by simp)
 grind[BH,AB,Dc,Bg,Bn,notes,B6,lim]
theorem xU{l:List Bs}(e:l.length<=1048576)(a:∀f∈l,f.Body.length<=1048576):AHI l=some (notes l):=by
 unfold AHI;exact qR e (G:=oJ) (fun f c=>YG (a f c)) fun L acc i=>by unfold AAG gJ;simp only[AR]
theorem vJ{l:List Bs}(e:l.length<=1048576)(a:∀f∈l,f.Body.length<=1048576):AHJ l=some (notes l):=by
 unfold AHJ;exact qR e (G:=zS) (fun f c=>vM (a f c)) fun L acc i=>by unfold AAH gK;simp only[AR]
theorem rj{s:Bo}{k:Int}{r:AE×Int×Bool}(h:FZ s k=some r):0<=r.2.1/\r.2.1<=1000000:=by
 unfold FZ at h;rw[HB,AB,GQ,AB,BP]at h;cases a:Gb (DQ s k) with
 |false=>rw[a,BT]at h;cases h;decide
 |true=>
  have j:=Fs.1 a;rw[a,BJ,B6 j.2]at h;obtain⟨q,g,y,c⟩:=Oz (s:=List.take (DQ s k).Safe.toNat (DQ s k).Data) (by rw[List.length_take];omega);rw[g,AB]at h;cases h;cases e:q.2.2 with
  |false=>rw[c.no e];decide|true=>
   have B:=(c.yes e).2.2
   grind[Et,CP,AAc,Wm,BL,AR]
def Ml(s:Bo)(n:Int)(q:AE×Int×Bool):AE×Int×Bool:=
 if II s=true/\¬n<0 then ((IQ (notes (aft q.2.1 (Da s.Log.Data))) q.1).1,q.2.1+(notes (aft q.2.1 (Da s.Log.Data))).length,true) else (Jh,0,false)
structure dF(s:Bo)(n:Int)(q:AE×Int×Bool):Prop where
 sn:K7 s=some n
 im:aX s=some n
 sr:FZ s n=some q
 ir:OY s n=some q
 fit:Bk q.1
 lo:0<=q.2.1
 hi:q.2.1<=1000000
theorem mD(s:Bo):∃n q,dF s n q:=by
 obtain⟨n,c,e,_⟩:=Qa s;obtain⟨q,q1,g,h⟩:=EW s n;obtain⟨a,b⟩:=rj q1;exact⟨n,q,c,e,q1,g,h,a,b⟩
theorem recovered{s:Bo}(j:s.Log.Data.length<=1048576){n:Int}{q:AE×Int×Bool}(h:dF s n q):pY s=some (Ml s n q)/\ja s=some (Ml s n q)/\Bk (Ml s n q).1:=by
 have E:=KA s.Log.Data;have a:=Y2 s.Log.Data;have y:=bh (Da s.Log.Data) q.2.1;have I:=Zk (aft q.2.1 (Da s.Log.Data));have e:∀f∈aft q.2.1 (Da s.Log.Data),f.Body.length<=1048576:=fun f B=>by have:=(a f (rl _ _ f B)).2.2;omega
 have H:=h.lo;have G:=h.hi;unfold pY ja jF jc Ml;simp only[h.sn,h.im,h.sr,h.ir,AB,RV,XX,AR,TU j,S4 j];rw[AF6 (by omega) a ⟨h.lo,h.hi⟩,AE7 (by omega) a ⟨h.lo,h.hi⟩,AB,AB,xU (by omega) e,vJ (by omega) e,AB,AB,RO h.fit (by omega),kW h.fit (by omega),AB,A6 (by omega) (by omega)];cases e:II s with
 |false=>exact⟨rfl,rfl,Ll⟩|true=>
  by_cases c:n<0
  .rw[decide_eq_true c,AU (fun g=>g.2 c)];exact⟨rfl,rfl,Ll⟩
  .rw[decide_eq_false c,AX ⟨rfl,c⟩];exact⟨rfl,rfl,(NV _ h.fit).1⟩
def used:Int->Int->List Bs->Int|_,e,[]=>e|v,e,f::l=>if f.Seq<=v then used v f.Next l else if f.Seq=v+1/\(OB f.Body).2=true then used (v+1) f.Next l else e
def YQ(t:Int):Int->Int->List Bs->Int|_,e,[]=>e|v,e,f::l=>if f.Seq<=v then YQ t v f.Next l else if f.Seq=v+1/\f.Seq<=t then YQ t (v+1) f.Next l else e
theorem YR:∀(l:List Bs) (v e:Int),YQ (v+(notes (aft v l)).length) v e l=used v e l
 | [],v,e=>rfl|f::l,v,e=>by
  unfold YQ used;unfold aft;by_cases a:f.Seq<=v
  .rw[AX a,AX a,AX a,YR l]
  .rw[AU a,AU a,AU a];by_cases c:f.Seq=v+1
   .rw[AX c];unfold notes;by_cases h:(OB f.Body).2=true
    .rw[AX h,AH,AX (show _/\_ from ⟨c,by omega⟩),AX (show _/\(OB f.Body).2=true from ⟨c,h⟩),<-YR l (v+1)];congr 1;omega
    .grind
   .rw[AU c,AU (fun g=>c g.1),AU (fun g=>c g.1)]
def Rq(s:Bo)(n:Int)(q:AE×Int×Bool):Int:=if II s=true/\¬n<0 then used q.2.1 0 (Da s.Log.Data) else 0
theorem Zz{s:Bo}(Q:s.Log.Data.length<=1048576){n:Int}{q:AE×Int×Bool}(h:dF s n q):pZ s=some (Rq s n q):=by
 have O:=KA s.Log.Data;have B:=Y2 s.Log.Data;have G:=h.lo;have E:=h.hi;unfold pZ jX Rq;simp only[h.sn,h.sr,AB,RV,AR,TU Q];have key:BB (jZ (Da s.Log.Data)) big (q.2.1,0,0)=some (used q.2.1 0 (Da s.Log.Data)):=by
  generalize Da s.Log.Data=l at *;refine(C9 (n:=l.length) (fun i (v:Int×Int)=>(v.1,v.2,(i:Int))) (fun i v=>0<=v.1/\v.1<=1000000) (fun i v=>some (used v.1 v.2 (l.drop i))) (by omega) ?_ (v:=(q.2.1,0)) ⟨G,E⟩).trans (by simp);rintro L i ⟨v,e⟩ ⟨a,c⟩ hi J;unfold jZ jY ABN;dsimp only at a c ⊢;simp only[dec_lt,AR];rcases AV i l.length with h|h
  .obtain⟨X,Y,Z⟩:=B _ (As h);rw[decide_eq_true h,BJ];simp only[BH h,AB];rw[Dc h,Bg h (by omega),BL,A6 (by omega) (by omega),YG (by omega)];unfold used;by_cases H:l[i].Seq<=v
   .rw[AX H,AU (by omega),show (l[i].Seq==v+1)=false by rw[beq_eq_false_iff_ne];omega,BT];exact J (v,l[i].Next) ⟨a,c⟩ h
   .rw[AU H];by_cases I:l[i].Seq=v+1
    .rw[AU (by omega),show (l[i].Seq==v+1)=true by rw[beq_iff_eq];omega,BJ,AB,BP,Bn];by_cases j:(OB l[i].Body).2=true
     .rw[AX j,AX ⟨I,j⟩];exact J (v+1,l[i].Next) ⟨by dsimp only;omega,by dsimp only;omega⟩ h
     .rw[AU j,AU (fun g=>j g.2)]
    .rw[AX (by omega),AU (fun g=>I g.1)]
  .rw[decide_eq_false (by omega),BT,A5 h];simp[used]
 rw[key];cases S:II s with
 |false=>rfl|true=>
  by_cases y:n<0
  .rw[decide_eq_true y,AU (fun g=>g.2 y)];rfl
  .rw[decide_eq_false y,AX ⟨rfl,y⟩];rfl
theorem qG{s:Bo}(O:s.Log.Data.length<=1048576){n:Int}{q:AE×Int×Bool}(h:dF s n q):pb s=some (Rq s n q):=by
 have Y:=KA s.Log.Data;have y:=Y2 s.Log.Data;have E:=h.lo;have B:=h.hi;unfold pb Rq;simp only[(recovered O h).2.1,h.im,h.ir,AB,Cm,Kz,S4 O];by_cases j:II s=true/\¬n<0
 .have G:(Ml s n q).2=(q.2.1+(notes (aft q.2.1 (Da s.Log.Data))).length,true):=by unfold Ml;rw[AX j]
  rw[G,AX j];dsimp only;rw[BP,BJ,<-YR];have Z:=Zk (aft q.2.1 (Da s.Log.Data));have X:=bh (Da s.Log.Data) q.2.1;have S:(Ml s n q).2.1=q.2.1+(notes (aft q.2.1 (Da s.Log.Data))).length:=by rw[G]
  generalize q.2.1+((notes (aft q.2.1 (Da s.Log.Data))).length:Int)=t at *;generalize Ml s n q=r at *;generalize Da s.Log.Data=l at *;refine(C9 (n:=l.length) (fun i (v:Int×Int)=>(v.1,v.2,(i:Int))) (fun i v=>0<=v.1/\v.1<=1000000) (fun i v=>some (YQ t v.1 v.2 (l.drop i))) (by omega) ?_ (v:=(q.2.1,0)) ⟨E,B⟩).trans (by simp);rintro L i ⟨v,e⟩ ⟨a,c⟩ hi Q;unfold ABO jd je jf;dsimp only at a c ⊢;simp only[dec_lt,AR];rcases AV i l.length with h|h
  .obtain⟨o1,o2,o3⟩:=y _ (As h);rw[decide_eq_true h,BJ];simp only[BH h,AB];rw[Dc h,Bg h (by omega),BL,A6 (by omega) (by omega),S];unfold YQ;by_cases H:l[i].Seq<=v
   .rw[AX H,AU (by omega)];exact Q (v,l[i].Next) ⟨a,c⟩ h
   .rw[AU H,AX (by omega)];by_cases I:l[i].Seq=v+1
    .rw[show (l[i].Seq != v+1)=false by rw[bne_eq_false_iff_eq];omega,BT,BL];by_cases J:l[i].Seq<=t
     .rw[AU (by omega),AX ⟨I,J⟩];exact Q (v+1,l[i].Next) ⟨by dsimp only;omega,by dsimp only;omega⟩ h
     .rw[AX (by omega),AU (fun g=>J g.2)]
    .rw[show (l[i].Seq != v+1)=true by rw[bne_iff_ne];omega,BJ,BJ,AU (fun g=>I g.1)]
  .rw[decide_eq_false (by omega),BT,A5 h];simp[YQ]
 .rw[show Ml s n q=(Jh,0,false) by unfold Ml;rw[AU j],AU j];rfl
def bS(a:B0)(p:Int):B0×Bool:=if Gb a=true/\inB p 0 a.Data.length=true then (⟨a.Data.take p.toNat,if a.Safe<p then a.Safe else p⟩,true) else (a,false)
theorem AMY(a:B0)(p:Int):Ly a p=some (bS a p):=by
 grind[Ly,No,bS,GQ,AB,GN,AR,Gb,inB,BJ,BT,B6,MN]
theorem AKV(a:B0)(p:Int):pc a p=some (bS a p):=by
 grind[pc,jg,bS,G5,AB,Fq,AR,Gb,inB,BJ,BT,B6]
theorem AMg(a:B0)(p:Int):(bS a p).1.Data.length<=a.Data.length:=by grind[bS]
def aE(s:Bo):Bool:=(s.Log.Safe==(s.Log.Data.length:Int))&&((s.FH.Safe==(s.FH.Data.length:Int))&&(s.Odd.Safe==(s.Odd.Data.length:Int)))
theorem AMS(s:Bo):SF s=some (aE s):=by
 unfold SF Ki Lm aE;simp only[AB,AR,Cf]
theorem AKO(s:Bo):AIU s=some (aE s):=by
 unfold AIU XC aE;simp only[AR,Cf]
def AXr:Bo:=⟨⟨[],0⟩,⟨[],0⟩,⟨[],0⟩⟩
def AJq:Af:=⟨Jh,AXr,0,[]⟩
theorem bV:B5 AJq:=⟨Ll,by decide,by decide,by decide,by decide⟩
def yL(s:Bo)(n:Int)(q:AE×Int×Bool):Af×Bool:=
 if (Ml s n q).2.2=true/\aE s=true then (⟨(Ml s n q).1,⟨Rp (bS s.Log (Rq s n q)).1,s.FH,s.Odd⟩,(Ml s n q).2.1,[]⟩,true) else (AJq,false)
theorem AZl{s:Bo}(a:s.Log.Data.length<=1048576)(j:s.FH.Data.length<=1048576)(y:s.Odd.Data.length<=1048576){n:Int}{q:AE×Int×Bool}(h:dF s n q):aI s=some (yL s n q)/\ABP s=some (yL s n q)/\B5 (yL s n q).1:=by
 obtain⟨c,e,g⟩:=recovered a h;have B:=AMg s.Log (Rq s n q);unfold aI ABP Nn jh yL;simp only[c,e,AB,AMS,AKO,AR,Zz a h,qG a h,AMY,AKV,Ox,QS,qF];cases (Ml s n q).2.2 with
 |false=>exact⟨rfl,rfl,bV⟩|true=>
  cases aE s with
  |false=>exact⟨rfl,rfl,bV⟩|true=>exact⟨rfl,rfl,by rw[AX ⟨rfl,rfl⟩];exact⟨g,by dsimp only;rw[OJ];omega,j,y,by simp⟩⟩
def ku(a:B0)(p:Int):Int:=if p<0 then a.Safe else if p<a.Data.length-a.Safe then a.Safe+p else a.Data.length
def JS(a:B0)(p:Int):B0:=if Gb a=true then ⟨a.Data.take (ku a p).toNat,ku a p⟩ else a
theorem AVG(b:Int):Nw 0 b=some (if 0<b then b else 0):=by
 unfold Nw;rw[BL];grind
theorem AXB(p:Int){m:Int}(a:0<=m):jC p 0 m=some (if p<0 then 0 else if p<m then p else m):=by
 unfold jC;congr 1
 grind
theorem AMU(a:B0)(p:Int):pd a p=some (JS a p):=by
 grind[pd,JS,GQ,AB,BP,Fs,BJ,MN,AVG,A6,ku,B6]
theorem AKQ(a:B0)(p:Int):pe a p=some (JS a p):=by
 grind[pe,JS,G5,AB,BP,Fs,BJ,A6,AXB,ku,B6]
theorem Za(a:B0)(p:Int):(JS a p).Data.length<=a.Data.length:=by grind[JS]
theorem ZZ{a:B0}(h:Gb a=true):(JS a 20000).Data=a.Data:=by
 grind[Fs,ku,JS,List.take_of_length_le]
def E0(s:Bo)(l:List Int):Bo:=⟨JS s.Log (l.getD 0 0),JS s.FH (l.getD 1 0),JS s.Odd (l.getD 2 0)⟩
theorem vT(l:List Int)(i:Nat):XG l i=some (l.getD i 0):=by
 grind[XG,BJ,BH,AB,BT]
theorem bN(s:Bo)(l:List Int):ABW s l=some (E0 s l):=by
 unfold ABW E0;rw[show XG l 0=some (l.getD 0 0) from vT l 0,show XG l 1=some (l.getD 1 0) from vT l 1,show XG l 2=some (l.getD 2 0) from vT l 2];simp only[AB,AMU]
theorem AYL(l:List Int):List.take (List.replicate (Int.toNat 3) 0).length l++List.drop l.length (List.replicate (Int.toNat 3) 0)=[l.getD 0 0,l.getD 1 0,l.getD 2 0]:=by
 match l with
 | []=>rfl| [a]=>rfl| [a,b]=>rfl|a::b::c::m=>simp[List.getD]
theorem ar(s:Bo)(l:List Int):pf s l=some (E0 s l):=by
 unfold pf E0;rw[AYL,show at? [l.getD 0 0,l.getD 1 0,l.getD 2 0] 0=some (l.getD 0 0) from rfl,show at? [l.getD 0 0,l.getD 1 0,l.getD 2 0] 1=some (l.getD 1 0) from rfl,show at? [l.getD 0 0,l.getD 1 0,l.getD 2 0] 2=some (l.getD 2 0) from rfl];simp only[AB,AKQ]
theorem Py{e:Af}(a:B5 e)(l:List Int):(E0 e.A9 l).Log.Data.length<=1048576/\(E0 e.A9 l).FH.Data.length<=1048576/\(E0 e.A9 l).Odd.Data.length<=1048576:=
 ⟨Aw (Za _ _) a.log,Aw (Za _ _) a.even,Aw (Za _ _) a.odd⟩
def Zw(e:Af)(r r':AE×Int×Bool)(u:Int):Bool:=
 Ev e&&((r.2.2&&(r.2.1==e.Seq&&(u==(e.A9.Log.Data.length:Int)&&PC r.1 (IQ e.Laid e.Bb).1)))&&(r'.2.2&&(r'.2.1==w64 (e.Seq-(e.Laid.length:Int))&&PC r'.1 e.Bb)))
theorem ADV{e:Af}(a:B5 e):∃b,jj e=some b/\V2 e=some b:=by
 obtain⟨n,q,h⟩:=mD (E0 e.A9 [20000,20000,20000]);obtain⟨H,q',E⟩:=mD (E0 e.A9 []);obtain⟨c,S,X⟩:=Py a [20000,20000,20000];obtain⟨m1,m2,m3⟩:=Py a [];obtain⟨I,J,y⟩:=recovered c h;obtain⟨s1,L,B⟩:=recovered m1 E;have O:=Zz c h;have Q:=qG c h;have j:=(NV e.Laid a.EB).1;unfold jj V2 Pw IM Sl J1;simp only[GR a,Uc a,AB];cases g:Ev e with
 |false=>exact⟨_,rfl,rfl⟩|true=>
  have G:Gb e.A9.Log=true:=by have:=(J9 g).2.1;unfold II at this;grind
  have ee:(E0 e.A9 [20000,20000,20000]).Log.Data=e.A9.Log.Data:=ZZ G;simp only[RO a.EB a.laid,kW a.EB a.laid,bN,ar,I,J,s1,L,O,Q,AB,AR,JB y j,S6 y j,JB B a.EB,S6 B a.EB,ee];generalize Ml (E0 e.A9 [20000,20000,20000]) n q=r;generalize Ml (E0 e.A9 []) H q'=r';generalize Rq (E0 e.A9 [20000,20000,20000]) n q=u;simp only[bne];refine⟨Zw e r r' u,?_,?_⟩<;>unfold Zw<;>rw[g]<;>cases r.2.2<;>cases (r.2.1==e.Seq)<;>cases (u==(e.A9.Log.Data.length:Int))<;>cases PC r.1 (IQ e.Laid e.Bb).1<;>cases r'.2.2<;>cases (r'.2.1==w64 (e.Seq-(e.Laid.length:Int)))<;>cases PC r'.1 e.Bb<;>rfl
end Lv.P
