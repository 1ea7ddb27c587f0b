/- Plain laws about what the program computes. -/
import Derived.Test.YtcmjfplpdjflnaaGreatPB
import Derived.Test.YtcmjfplpdjflnaaGreatPC
set_option linter.unusedVariables false
set_option linter.unusedSimpArgs false
set_option linter.unusedSectionVars false
open Bool renaming not_eq_true->EP
open Int renaming toNat_natCast->Aa
open List renaming flatMap_cons->CX,length_append->AP,length_cons->AJ,length_nil->AS,length_singleton->Bm,map_cons->AI,set_set->C1,sum_cons->K5
open Nat renaming le_refl->Af,lt_or_ge->Ab,mul_add->Mh
namespace Lv.P
open Go (IntKind BinOp UnOp)
theorem Jp{α β γ:Type}{l:List α}(f:α->List β)(J:List β->AA γ){F:(List β×Int->AA γ)->List β×Int->AA γ}(c:l.length<=1048576)(m:Nat)(e:∀x,(f x).length<=m){v0:List β}
 (step:∀L i (h:i<l.length) v,v.length<=v0.length+m*i->F L (v,(i:Int))=L (v++f l[i],w64 ((i:Int)+1))) (stop:∀L v,F L (v,(l.length:Int))=J v):A3 F big (v0,0)=J (v0++l.flatMap f):=by
 refine(DA (n:=l.length) (fun i (v:List β)=>(v,(i:Int))) (fun i v=>v=v0++(l.take i).flatMap f/\v.length<=v0.length+m*i) (fun i v=>J (v0++l.flatMap f)) (by omega) ?_ ⟨by simp,by simp⟩);rintro L i v ⟨g,a⟩ hi j;rcases Ab i l.length with h|h
 .rw[step L i h v a,Bp h (by omega)]
  grind[List.take_add_one]
 grind
theorem E0{α β:Type}(f:α->List β){m:Nat}(a:∀x,(f x).length<=m):∀l:List α,(l.flatMap f).length<=m*l.length
 | []=>by simp|x::l=>by
  have:=E0 f a l;have:=a x;rw[CX,AP,AJ,Mh];omega
def J6(r:Ae):List Int:=[r.Ce,r.Room,r.BB,r.CE,r.B0,r.Rest,r.Cd,r.C3]++r.AZ
def MA(p:AM):List Int:=[p.Id,p.AY,w64 (p.Bk+1),p.BB,p.Cv,p.Since,p.Ay,p.State,p.Cq,p.DB]
def HQ(h:AF):List Int:=
 (([((J6 h.AQ).length:Int)]++J6 h.AQ++[h.Now,h.Ay,(h.AG.length:Int)]++h.AG.flatMap MA)++h.AH.flatMap (fun c=>[c.AZ.DY]))++[(h.BE.length:Int)]++h.BE++h.BC.flatMap (fun x=>[w64 (x+1)])
noncomputable def ATW(h:AF):List Int:=if D6 h=true then HQ h else []
theorem Kh{h:AF}(a:D6 h=true):EO h.AQ=true/\(0<=h.Now/\h.Now<=1000000)/\(1<=h.Ay/\h.Ay<=1000001)/\h.AG.length<=40/\h.AH.length=h.AQ.AZ.length/\J3 h=true/\IQ h.BE h.AH.length=true/\L7 h.BC h.AH.length=true/\(h.BC.length:Int)=h.AQ.C3/\ME h=true:=by
 grind[D6,CQ]
theorem SQ{h:AF}(e:By h)(a:D6 h=true):(HQ h).length<=2000000:=by
 have g:=Kh a;have E:=CR g.1;have j:=E0 MA (m:=10) (fun _=>Af _) h.AG;have q:=E0 (fun c:AX=>[c.AZ.DY]) (m:=1) (fun _=>Af _) h.AH;have y:=E0 (fun x:Int=>[w64 (x+1)]) (m:=1) (fun _=>Af _) h.BC;have B:=e.todo;unfold HQ J6;simp only[AP,AJ,AS];omega
theorem kq{r:Ae}(c:r.AZ.length<=1048576)(a:EO r=true):AHV r=some (J6 r):=by
 unfold AHV;rw[J9 (by omega),AB,a,BK,BL,B4 (by simp only[AJ,AS];unfold lim;omega)];rfl
theorem RP{r:Ae}(c:r.AZ.length<=1048576)(a:EO r=true):m7 r=some (J6 r):=by
 unfold m7;rw[Ha (by omega),AB,a,BK,BL,B4 (by simp only[AJ,AS];unfold lim;omega)];rfl
theorem O4(r:Ae):(J6 r).length=8+r.AZ.length:=by unfold J6;simp only[AP,AJ,AS]
theorem pU{h:AF}(a:By h)(g:D6 h=true):xd h=some (HQ h):=by
 have hlim:lim=268435456:=rfl;have j:=Kh g;have X:=CR j.1;have E:=a.CN;have G:=a.EN;have O:=a.todo;have H:=a.F5;have B:∀v:List Int,v.length<=5000000->U2 h v=some (v++[(h.BE.length:Int)]++h.BE++h.BC.flatMap (fun x=>[w64 (x+1)])):=by
  intro v J;unfold U2;rw[B4 (by rw[NM];omega),B4 (by rw[AP,Bm];omega)];refine Jp (l:=h.BC) (fun x=>[w64 (x+1)]) some H 1 (fun _=>Af _) ?_ ?_
  .grind[cU,BL,BG,AB,B4]
  .intro L q;unfold cU xe;dsimp only;rw[C5,BO,AU]
 have y:∀v:List Int,v.length<=3000000->U1 h v=some ((v++h.AH.flatMap (fun c=>[c.AZ.DY]))++[(h.BE.length:Int)]++h.BE++h.BC.flatMap (fun x=>[w64 (x+1)])):=by
  intro v J;have I:=E0 (fun c:AX=>[c.AZ.DY]) (m:=1) (fun _=>Af _) h.AH;unfold U1;rw[Jp (l:=h.AH) (fun c=>[c.AZ.DY]) (U2 h) G 1 (fun _=>Af _) ?_ ?_,B _ (by rw[AP];omega)]
  .grind[cS,BL,BG,AB,B4]
  .intro L q;unfold cS;dsimp only;rw[C5,BO,AU]
 have I:=E0 MA (m:=10) (fun _=>Af _) h.AG;have S:=O4 h.AQ;have Y:=a.Dr;unfold xd;rw[IW a,AB,g,BK,BL,kq a.Dr j.1,AB,B4 (by rw[Bm];omega),B4 (by simp only[AP,Bm,AJ,AS];omega)];rw[Jp (l:=h.AG) MA (U1 h) E 10 (fun _=>Af _) ?_ ?_,y _ (by simp only[AP,Bm,AJ,AS];omega)]
 .rfl
 .intro L i hi q e;simp only[AP,Bm,AJ,AS]at e;unfold cR;dsimp only;rw[B6 hi,BL,BG hi,AB,B4 (by simp only[AJ,AS];omega)];rfl
 grind[cR,BO,AU]
theorem ALP{h:AF}(a:By h)(g:D6 h=true):AHp h=some (HQ h):=by
 have hlim:lim=268435456:=rfl;have j:=Kh g;have X:=CR j.1;have E:=a.CN;have G:=a.EN;have O:=a.todo;have H:=a.F5;have B:∀v:List Int,v.length<=5000000->VE h v=some (v++[(h.BE.length:Int)]++h.BE++h.BC.flatMap (fun x=>[w64 (x+1)])):=by
  intro v J;unfold VE;rw[B4 (by rw[NM];omega),B4 (by rw[AP,Bm];omega)];refine Jp (l:=h.BC) (fun x=>[w64 (x+1)]) some H 1 (fun _=>Af _) ?_ ?_
  .grind[dU,BL,BG,AB,B4]
  .intro L q;unfold dU yf;dsimp only;rw[C5,BO,AU]
 have y:∀v:List Int,v.length<=3000000->VD h v=some ((v++h.AH.flatMap (fun c=>[c.AZ.DY]))++[(h.BE.length:Int)]++h.BE++h.BC.flatMap (fun x=>[w64 (x+1)])):=by
  intro v J;have I:=E0 (fun c:AX=>[c.AZ.DY]) (m:=1) (fun _=>Af _) h.AH;unfold VD;rw[Jp (l:=h.AH) (fun c=>[c.AZ.DY]) (VE h) G 1 (fun _=>Af _) ?_ ?_,B _ (by rw[AP];omega)]
  .grind[dT,BL,BG,AB,B4]
  .intro L q;unfold dT;dsimp only;rw[C5,BO,AU]
 have I:=E0 MA (m:=10) (fun _=>Af _) h.AG;have S:=O4 h.AQ;have Y:=a.Dr;unfold AHp;rw[GZ a,AB,g,BK,BL,RP a.Dr j.1,AB,B4 (by rw[Bm];omega),B4 (by simp only[AP,Bm,AJ,AS];omega)];rw[Jp (l:=h.AG) MA (VD h) E 10 (fun _=>Af _) ?_ ?_,y _ (by simp only[AP,Bm,AJ,AS];omega)]
 .rfl
 .intro L i hi q e;simp only[AP,Bm,AJ,AS]at e;unfold dS;dsimp only;rw[B6 hi,BL,BG hi,AB,B4 (by simp only[AJ,AS];omega)];rfl
 grind[dS,BO,AU]
theorem AFE{h:AF}(a:By h)(g:D6 h=true):yU h=some (HQ h):=by
 have hlim:lim=268435456:=rfl;have j:=Kh g;have X:=CR j.1;have E:=a.CN;have G:=a.EN;have O:=a.todo;have H:=a.F5;have B:∀v:List Int,v.length<=5000000->VB h v=some (v++[(h.BE.length:Int)]++h.BE++h.BC.flatMap (fun x=>[w64 (x+1)])):=by
  intro v J;unfold VB;rw[B4 (by rw[NM];omega),B4 (by rw[AP,Bm];omega)];refine Jp (l:=h.BC) (fun x=>[w64 (x+1)]) some H 1 (fun _=>Af _) ?_ ?_
  .grind[dN,BL,BG,AB,B4]
  .intro L q;unfold dN yV;dsimp only;rw[C5,BO,AU]
 have y:∀v:List Int,v.length<=3000000->VA h v=some ((v++h.AH.flatMap (fun c=>[c.AZ.DY]))++[(h.BE.length:Int)]++h.BE++h.BC.flatMap (fun x=>[w64 (x+1)])):=by
  intro v J;have I:=E0 (fun c:AX=>[c.AZ.DY]) (m:=1) (fun _=>Af _) h.AH;unfold VA;rw[Jp (l:=h.AH) (fun c=>[c.AZ.DY]) (VB h) G 1 (fun _=>Af _) ?_ ?_,B _ (by rw[AP];omega)]
  .grind[dM,BL,BG,AB,B4]
  .intro L q;unfold dM;dsimp only;rw[C5,BO,AU]
 have I:=E0 MA (m:=10) (fun _=>Af _) h.AG;have S:=O4 h.AQ;have Y:=a.Dr;unfold yU;rw[GZ a,AB,g,BK,BL,RP a.Dr j.1,AB,B4 (by rw[Bm];omega),B4 (by simp only[AP,Bm,AJ,AS];omega)];rw[Jp (l:=h.AG) MA (VA h) E 10 (fun _=>Af _) ?_ ?_,y _ (by simp only[AP,Bm,AJ,AS];omega)]
 .rfl
 .intro L i hi q e;simp only[AP,Bm,AJ,AS]at e;unfold dL;dsimp only;rw[B6 hi,BL,BG hi,AB,B4 (by simp only[AJ,AS];omega)];rfl
 grind[dL,BO,AU]
noncomputable def PC(h:AF)(q:Int):List UInt8:=if D6 h=true/\inB q 0 1000000=true then four ((Js (pL (q::HQ h)):Nat):Int)++pL (q::HQ h) else []
theorem WZ:∀l:List Int,(pL l).length<=5*l.length
 | []=>by simp[pL]|x::l=>by
  have:=WZ l;have:=N4 x;unfold pL at *;rw[CX,AP,AJ];omega
theorem TK{h:AF}(c:By h)(q:Int):yT h q=some (PC h q):=by
 have hlim:lim=268435456:=rfl;have hslim:N5=4611686018427387904:=rfl;unfold yT PC;rw[IW c,AB,BK,AU,GL,AB,AU];by_cases a:D6 h=true
 .have j:=SQ c a;have e:=WZ (q::HQ h);rw[AJ]at e;rw[a,BL];unfold dK;rw[BK,pU c a,AB,B4 (by rw[Bm];omega),List.singleton_append,Wx (by rw[AJ];omega),AB,ACn (by omega),AB];unfold yS;rw[AB];cases y:inB q 0 1000000 with
  |false=>rfl|true=>
   rw[BL,B4 (by simp only[AJ,AS];omega),AW ⟨rfl,rfl⟩];rfl
 .rw[AT (fun g=>a g.1)];rw[EP]at a;rw[a,BO];rfl
theorem S6{h:AF}(c:By h)(q:Int):ye h q=some (PC h q):=by
 have hslim:N5=4611686018427387904:=rfl;unfold ye PC orE;by_cases a:D6 h=true
 .have H:=SQ c a;have B:=WZ (q::HQ h);rw[AJ]at B;have G:=N4 q;have E:=WZ (HQ h);have y:(HQ h).isEmpty=false:=by
   unfold HQ;simp
  have j:pN q++pL (HQ h)=pL (q::HQ h):=rfl;have e:m8 h q=some (if inB q 0 1000000=true then four ((Js (pL (q::HQ h)):Nat):Int)++pL (q::HQ h) else []):=by
   unfold m8;rw[AFE c a,AB,B4 y,E9,AB,BK];cases I:inB q 0 1000000 with
   |false=>rfl|true=>
    rw[BL,JZ,AB,WJ (by omega),AB,B4 (by omega),j,ABa (by omega),AB,B4 (by simp only[AJ,AS];omega)];rfl
  grind
 .rw[AT (fun g=>a g.1)];rw[EP]at a;have e:m8 h q=none:=by
   unfold m8 yU;rw[GZ c,AB,a,BK,BO,AV8]
  rw[e];dsimp only;unfold AHo AOW;rw[GZ c,AB,a,BK,BO,AB]
inductive Fw{α:Type}(Q:Int->α->Int->Prop):Int->List α->Int->Prop|nil(k:Int):Fw Q k [] k|cons {k k1 k2:Int} {x:α} {l:List α} (h:Q k x k1) (t:Fw Q k1 l k2):Fw Q k (x::l) k2
section
variable{α:Type}{Q:Int->α->Int->Prop}
theorem Fw.snoc{k c e:Int}{l:List α}{x:α}(h:Fw Q k l c)(a:Q c x e):Fw Q k (l++[x]) e:=by
 induction h with
 |nil k=>exact .cons a (.nil _)|cons h t g=>exact .cons h (g a)
theorem AVT{l:List α}(cst:α->Nat){i:Nat}(h:i<l.length):((l.take (i+1)).map cst).sum=((l.take i).map cst).sum+cst l[i]:=by
 grind[List.take_add_one]
theorem AZ1{l:List α}(cst:α->Nat)(i:Nat):((l.take i).map cst).sum<=(l.map cst).sum:=by
 grind[List.take_append_drop]
theorem Mc(c:Nat):∀l:List α,(l.map (fun _=>c)).sum=c*l.length| []=>by simp|x::l=>by rw[AI,K5,Mc c l,AJ,Mh];omega
theorem pX{l:List α}{cst:α->Nat}{m:Nat}(h:∀x∈l,cst x<=m):(l.map cst).sum<=m*l.length:=by
 induction l with
 |nil=>simp|cons x l a=>
  grind[Nat.mul_add]
theorem LL{l:List α}(cst:α->Nat)(M:Int){F:(List α×Int×Int->AA (Int×List α))->List α×Int×Int->AA (Int×List α)}(hl:l.length<=1048576){a:Int}(Y:0<=a)(Z:a+((l.map cst).sum:Nat)<=M)
 (step:∀L (v:List α) (k:Int) (i:Nat) (h:i<l.length),v.length=l.length->v[i]?=some l[i]->0<=k->k+cst l[i]<=M ->
  ∃c g,F L (v,k,(i:Int))=L (v.set i g,c,w64 ((i:Int)+1))/\Q k g c/\k<=c/\c<=k+cst l[i])
 (stop:∀L v k,v.length=l.length->F L (v,k,(l.length:Int))=some (k,v)) :
 ∃r,A3 F big (l,a,0)=some r/\(Fw Q a r.2 r.1/\r.2.length=l.length/\a<=r.1/\r.1<=a+((l.map cst).sum:Nat)):=by
 refine V7 (n:=l.length) (fun i (v:List α×Int)=>(v.1,v.2,(i:Int))) (fun i v=>v.1.length=l.length/\v.1.drop i=l.drop i/\Fw Q a (v.1.take i) v.2/\a<=v.2/\v.2<=a+(((l.take i).map cst).sum:Nat)) _ (by omega) ?_ (v:=(l,a)) ⟨rfl,rfl,by simpa using Fw.nil a,Int.le_refl _,by simp⟩;rintro L i ⟨v,k⟩ ⟨j,B,q,E,y⟩ hi H;dsimp only at j B q E y H ⊢;rcases Ab i l.length with h|h
 .have G:i<v.length:=by omega
  have e:v[i]=l[i]:=by
   grind[DR]
  have hs:=AVT cst h;have O:=AZ1 (l:=l) cst (i+1);obtain⟨c,g,I,J,S,X⟩:=step L v k i h j (by rw[List.getElem?_eq_getElem G,e]) (by omega) (by omega);rw[I,Bp h (by omega)];refine H (v.set i g,c) ⟨by simp[j],?_,?_,by dsimp only;omega,by dsimp only;omega⟩ h
  .dsimp only;rw[List.drop_set_of_lt (by omega)];have:=congrArg (List.drop 1) B;simpa[List.drop_drop,Nat.add_comm] using this
  .dsimp only;have:(v.set i g).take (i+1)=v.take i++[g]:=by
    rw[List.take_add_one,List.take_set_of_le (by omega)];simp[G]
   rw[this];exact q.snoc J
 .obtain rfl:i=l.length:=by omega
  rw[stop L v k j];rw[List.take_of_length_le (by omega)]at q;rw[List.take_length]at y;exact⟨_,rfl,q,j,E,y⟩
theorem LJ{l:List α}{k c:Int}(g:Fw Q k l c){G:(Int×Int->AA Int)->Int×Int->AA Int}(B:l.length<=1048576)
 (step:∀L i (h:i<l.length) k e,Q k l[i] e->G L (k,(i:Int))=L (e,w64 ((i:Int)+1))) (stop:∀L k,G L (k,(l.length:Int))=some k):A3 G big (k,0)=some c:=by
 refine(DA (n:=l.length) (fun i (k:Int)=>(k,(i:Int))) (fun i k=>Fw Q k (l.drop i) c) (fun _ _=>some c) (by omega) ?_ (by simpa using g));intro L i k a hi y;rcases Ab i l.length with h|h
 .rw[DR h]at a;cases a with
  |cons j q=>
   rw[step L i h _ _ j,Bp h (by omega)];exact y _ q h
 .obtain rfl:i=l.length:=by omega
  rw[List.drop_length]at a;cases a;exact stop _ _
end
theorem R6{α:Type}{v:List α}{i:Nat}(h:i<v.length)(a:α):at? (v.set i a) (i:Int)=some a:=by rw[FB];simp[h]
def AXM(k:Int)(x:Int)(k1:Int):Prop:=x=k/\k1=k+1/\0<=k/\k<=2 ^ 60
theorem RX{l:List Int}(c:l.length<=1048576){k:Int}(a:0<=k)(B:k<=2 ^ 59) :
 ∃r,ZD l k=some r/\(Fw AXM k r.2 r.1/\r.2.length=l.length/\k<=r.1/\r.1<=k+1*l.length):=by
 have e:=Mc 1 l;unfold ZD;have key:=LL (l:=l) (Q:=AXM) (F:=VF) (fun _=>1) (2 ^ 60) c a (by rw[e];omega) ?_ ?_
 .grind
 .intro L v k i h E g j kb;have hi:i<v.length:=by omega
  have y:at? v (i:Int)=some l[i]:=by rw[FB];exact g
  have q:w64 (k+1)=k+1:=Aq (by omega) (by omega);refine⟨k+1,k,?_,⟨rfl,rfl,j,by omega⟩,by omega,by omega⟩;unfold VF yg dV
  grind[BL,AB,AU]
 grind[VF,dV,BO,AU]
theorem WC{l:List Int}(e:l.length<=1048576){k a:Int}(c:Fw AXM k l a):dZ l k=some a:=by
 unfold dZ;refine LJ c e ?_ ?_
 .rintro L i h k q ⟨g,rfl,j,kb⟩
  grind[Aq,da,BL,BG,AB,BO]
 grind[da,zA,BO,AU]
def AFz(k:Int)(x:AM)(k1:Int):Prop:=x=⟨k,k+1,k+1+1,k+1+1+1,k+1+1+1+1,k+1+1+1+1+1,k+1+1+1+1+1+1,k+1+1+1+1+1+1+1,k+1+1+1+1+1+1+1+1,k+1+1+1+1+1+1+1+1+1⟩/\k1=k+1+1+1+1+1+1+1+1+1+1/\0<=k/\k<=2 ^ 60
theorem AFP{l:List AM}(hl:l.length<=1048576){k:Int}(Z:0<=k)(hb:k<=2 ^ 59) :
 ∃r,AHq l k=some r/\(Fw AFz k r.2 r.1/\r.2.length=l.length/\k<=r.1/\r.1<=k+10*l.length):=by
 have c:=Mc 10 l;unfold AHq;have key:=LL (l:=l) (Q:=AFz) (F:=VG) (fun _=>10) (2 ^ 60) hl Z (by rw[c];omega) ?_ ?_
 .obtain⟨r,J,O,S,X,Y⟩:=key;exact⟨r,J,O,S,X,by rw[c]at Y;omega⟩
 .intro L v k i h e hx k0 kb;have hi:i<v.length:=by omega
  have ha:at? v (i:Int)=some l[i]:=by rw[FB];exact hx
  have g:w64 (k+1)=k+1:=Aq (by omega) (by omega);have j:w64 (k+1+1)=k+1+1:=Aq (by omega) (by omega);have q:w64 (k+1+1+1)=k+1+1+1:=Aq (by omega) (by omega);have y:w64 (k+1+1+1+1)=k+1+1+1+1:=Aq (by omega) (by omega);have B:w64 (k+1+1+1+1+1)=k+1+1+1+1+1:=Aq (by omega) (by omega);have E:w64 (k+1+1+1+1+1+1)=k+1+1+1+1+1+1:=Aq (by omega) (by omega);have G:w64 (k+1+1+1+1+1+1+1)=k+1+1+1+1+1+1+1:=Aq (by omega) (by omega);have H:w64 (k+1+1+1+1+1+1+1+1)=k+1+1+1+1+1+1+1+1:=Aq (by omega) (by omega);have I:w64 (k+1+1+1+1+1+1+1+1+1)=k+1+1+1+1+1+1+1+1+1:=Aq (by omega) (by omega);have a:w64 (k+1+1+1+1+1+1+1+1+1+1)=k+1+1+1+1+1+1+1+1+1+1:=Aq (by omega) (by omega);refine⟨k+1+1+1+1+1+1+1+1+1+1,⟨k,k+1,k+1+1,k+1+1+1,k+1+1+1+1,k+1+1+1+1+1,k+1+1+1+1+1+1,k+1+1+1+1+1+1+1,k+1+1+1+1+1+1+1+1,k+1+1+1+1+1+1+1+1+1⟩,?_,⟨rfl,rfl,k0,by omega⟩,by omega,by omega⟩;unfold VG yh yj yk ym yn yo yp yq m9 nA XP;dsimp only;rw[B6 hi,BL];simp only[ha,AB,AU,Aa,R6 hi,C1,g,j,q,y,B,E,G,H,I,a]
 .intro L v k e;unfold VG XP;dsimp only;rw[e,C5,BO,AU]
theorem AFC{l:List AM}(J:l.length<=1048576){k c:Int}(I:Fw AFz k l c):AHk l k=some c:=by
 unfold AHk;refine LJ I J ?_ ?_
 .rintro L i h k X ⟨O,rfl,S,kb⟩;have e:w64 (k+1)=k+1:=Aq (by omega) (by omega);have g:w64 (k+1+1)=k+1+1:=Aq (by omega) (by omega);have j:w64 (k+1+1+1)=k+1+1+1:=Aq (by omega) (by omega);have q:w64 (k+1+1+1+1)=k+1+1+1+1:=Aq (by omega) (by omega);have y:w64 (k+1+1+1+1+1)=k+1+1+1+1+1:=Aq (by omega) (by omega);have B:w64 (k+1+1+1+1+1+1)=k+1+1+1+1+1+1:=Aq (by omega) (by omega);have E:w64 (k+1+1+1+1+1+1+1)=k+1+1+1+1+1+1+1:=Aq (by omega) (by omega);have G:w64 (k+1+1+1+1+1+1+1+1)=k+1+1+1+1+1+1+1+1:=Aq (by omega) (by omega);have H:w64 (k+1+1+1+1+1+1+1+1+1)=k+1+1+1+1+1+1+1+1+1:=Aq (by omega) (by omega);have a:w64 (k+1+1+1+1+1+1+1+1+1+1)=k+1+1+1+1+1+1+1+1+1+1:=Aq (by omega) (by omega);unfold dB;dsimp only;rw[B6 h,BL];simp only[BG h,AB,O,ne_self,BO,e,g,j,q,y,B,E,G,H,a]
 .intro L k;unfold dB yK;dsimp only;rw[C5,BO,AU]
def uM(k:Int)(x:Ad)(k1:Int):Prop:=x=⟨k,k+1,k+1+1,k+1+1+1⟩/\k1=k+1+1+1+1/\0<=k/\k<=2 ^ 60
theorem AFN{l:List Ad}(y:l.length<=1048576){k:Int}(j:0<=k)(H:k<=2 ^ 59) :
 ∃r,AHr l k=some r/\(Fw uM k r.2 r.1/\r.2.length=l.length/\k<=r.1/\r.1<=k+4*l.length):=by
 have B:=Mc 4 l;unfold AHr;have key:=LL (l:=l) (Q:=uM) (F:=VH) (fun _=>4) (2 ^ 60) y j (by rw[B];omega) ?_ ?_
 .grind
 .intro L v k i h I E G kb;have hi:i<v.length:=by omega
  have q:at? v (i:Int)=some l[i]:=by rw[FB];exact E
  have a:w64 (k+1)=k+1:=Aq (by omega) (by omega);have c:w64 (k+1+1)=k+1+1:=Aq (by omega) (by omega);have e:w64 (k+1+1+1)=k+1+1+1:=Aq (by omega) (by omega);have g:w64 (k+1+1+1+1)=k+1+1+1+1:=Aq (by omega) (by omega);refine⟨k+1+1+1+1,⟨k,k+1,k+1+1,k+1+1+1⟩,?_,⟨rfl,rfl,G,by omega⟩,by omega,by omega⟩;unfold VH yr yt yu yv dW;dsimp only;rw[B6 hi,BL];simp only[q,AB,AU,Aa,R6 hi,C1,a,c,e,g]
 grind[VH,dW,BO,AU]
theorem AFB{l:List Ad}(e:l.length<=1048576){k a:Int}(c:Fw uM k l a):AHl l k=some a:=by
 unfold AHl;refine LJ c e ?_ ?_
 .rintro L i h k q ⟨g,rfl,j,kb⟩
  grind[Aq,dC,BL,BG,AB,BO]
 grind[dC,yL,BO,AU]
def AXN(k:Int)(x:A7)(k1:Int):Prop:=x=⟨k,k+1⟩/\k1=k+1+1/\0<=k/\k<=2 ^ 60
theorem ATS{l:List A7}(c:l.length<=1048576){k:Int}(a:0<=k)(E:k<=2 ^ 59) :
 ∃r,AHs l k=some r/\(Fw AXN k r.2 r.1/\r.2.length=l.length/\k<=r.1/\r.1<=k+2*l.length):=by
 have e:=Mc 2 l;unfold AHs;have key:=LL (l:=l) (Q:=AXN) (F:=VI) (fun _=>2) (2 ^ 60) c a (by rw[e];omega) ?_ ?_
 .grind
 .intro L v k i h G g j kb;have hi:i<v.length:=by omega
  have B:at? v (i:Int)=some l[i]:=by rw[FB];exact g
  have q:w64 (k+1)=k+1:=Aq (by omega) (by omega);have y:w64 (k+1+1)=k+1+1:=Aq (by omega) (by omega);refine⟨k+1+1,⟨k,k+1⟩,?_,⟨rfl,rfl,j,by omega⟩,by omega,by omega⟩;unfold VI yw yx dX
  grind[BL,AB,AU,R6,List.set_set]
 grind[VI,dX,BO,AU]
theorem AS2{l:List A7}(e:l.length<=1048576){k a:Int}(c:Fw AXN k l a):AHm l k=some a:=by
 unfold AHm;refine LJ c e ?_ ?_
 .rintro L i h k q ⟨g,rfl,j,kb⟩
  grind[Aq,dE,BL,BG,AB,BO]
 grind[dE,yM,BO,AU]
def AZs(k:Int)(x:Bo)(k1:Int):Prop:=x=⟨k,k+1,k+1+1,k+1+1+1,k+1+1+1+1,k+1+1+1+1+1⟩/\k1=k+1+1+1+1+1+1/\0<=k/\k<=2 ^ 60
theorem ABs{l:List Bo}(E:l.length<=1048576){k:Int}(y:0<=k)(J:k<=2 ^ 59) :
 ∃r,yD l k=some r/\(Fw AZs k r.2 r.1/\r.2.length=l.length/\k<=r.1/\r.1<=k+6*l.length):=by
 have G:=Mc 6 l;unfold yD;have key:=LL (l:=l) (Q:=AZs) (F:=U9) (fun _=>6) (2 ^ 60) E y (by rw[G];omega) ?_ ?_
 .grind
 .intro L v k i h O H I kb;have hi:i<v.length:=by omega
  have B:at? v (i:Int)=some l[i]:=by rw[FB];exact H
  have a:w64 (k+1)=k+1:=Aq (by omega) (by omega);have c:w64 (k+1+1)=k+1+1:=Aq (by omega) (by omega);have e:w64 (k+1+1+1)=k+1+1+1:=Aq (by omega) (by omega);have g:w64 (k+1+1+1+1)=k+1+1+1+1:=Aq (by omega) (by omega);have j:w64 (k+1+1+1+1+1)=k+1+1+1+1+1:=Aq (by omega) (by omega);have q:w64 (k+1+1+1+1+1+1)=k+1+1+1+1+1+1:=Aq (by omega) (by omega);refine⟨k+1+1+1+1+1+1,⟨k,k+1,k+1+1,k+1+1+1,k+1+1+1+1,k+1+1+1+1+1⟩,?_,⟨rfl,rfl,I,by omega⟩,by omega,by omega⟩;unfold U9 yE yF yG yH yI yJ c9;dsimp only;rw[B6 hi,BL];simp only[B,AB,AU,Aa,R6 hi,C1,a,c,e,g,j,q]
 grind[U9,c9,BO,AU]
theorem ABW{l:List Bo}(e:l.length<=1048576){k a:Int}(c:Fw AZs k l a):zM l k=some a:=by
 unfold zM;refine LJ c e ?_ ?_
 .rintro L i h k I ⟨G,rfl,H,kb⟩;have g:w64 (k+1)=k+1:=Aq (by omega) (by omega);have j:w64 (k+1+1)=k+1+1:=Aq (by omega) (by omega);have q:w64 (k+1+1+1)=k+1+1+1:=Aq (by omega) (by omega);have y:w64 (k+1+1+1+1)=k+1+1+1+1:=Aq (by omega) (by omega);have B:w64 (k+1+1+1+1+1)=k+1+1+1+1+1:=Aq (by omega) (by omega);have E:w64 (k+1+1+1+1+1+1)=k+1+1+1+1+1+1:=Aq (by omega) (by omega);unfold dt
  grind[BL,BG,AB,BO]
 grind[dt,zN,BO,AU]
theorem AZM{α:Type}{v:List α}{i:Nat}(h:i<v.length)(a:α):(v.set i a)[i]?=some a:=by simp[h]
def AKF(k:Int)(s:List A7)(k1:Int):Prop:=s.length<=1048576/\Fw AXN k s k1/\0<=k/\0<=k1
theorem ABL:∀l:List (List A7),(l.map (fun s=>2*s.length)).sum=2*l.flatten.length| []=>rfl|s::l=>by rw[AI,K5,ABL l,List.flatten_cons,AP];omega
theorem AFQ{w:Av}(a:DP w){k:Int}(q:0<=k)(O:k<=2 ^ 58) :
 ∃r,AHt w.An k=some r/\(Fw AKF k r.2 r.1/\r.2.length=w.An.length/\k<=r.1/\r.1<=k+2*w.An.flatten.length):=by
 have B:=ABL w.An;have y:=a.1;have I:=a.2;unfold AHt;have key:=LL (l:=w.An) (Q:=AKF) (F:=VJ) (fun s=>2*s.length) (2 ^ 59) y q (by rw[B];omega) ?_ ?_
 .grind
 .intro L v k i h X E c kb;have hi:i<v.length:=by omega
  have J:at? v (i:Int)=some w.An[i]:=by rw[FB];exact E
  have S:=IY h;obtain⟨r,e,g,G,j,H⟩:=ATS (l:=w.An[i]) (by omega) c (by omega);refine⟨r.1,r.2,?_,⟨by omega,g,c,by omega⟩,j,by push_cast;omega⟩
  grind[VJ,BL,AB,B4]
 grind[VJ,yy,BO,AU]
theorem AFD{l:List (List A7)}(g:l.length<=1048576){k a:Int}(e:Fw AKF k l a):AHn l k=some a:=by
 unfold AHn;refine LJ e g ?_ ?_
 .rintro L i h k B ⟨j,c,y,q⟩;unfold dF;dsimp only;rw[B6 h,BL,BG h,AB,AS2 j c,AB,BH,AT (by omega)]
 grind[dF,yN,BO,AU]
def AFy(k:Int)(c:AX)(k1:Int):Prop:=
 c.AZ=⟨k,k+1,k+1+1,k+1+1+1,k+1+1+1+1⟩/\(0<=k/\k<=2 ^ 60)/\c.Row.length<=1048576/\c.Bq.An.length<=1048576/\0<=k1/\∃a,Fw uM (k+1+1+1+1+1) c.Row a/\0<=a/\Fw AKF a c.Bq.An k1
def AWM(c:AX):Nat:=5+4*c.Row.length+2*c.Bq.An.flatten.length
theorem ABp{l:List AX}(S:l.length<=1048576)(j:∀c∈l,EC c){k:Int}(J:0<=k)(hb:k<=2 ^ 56) :
 ∃r,AHu l k=some r/\(Fw AFy k r.2 r.1/\r.2.length=l.length/\k<=r.1/\r.1<=k+2 ^ 50):=by
 have hs:=pX (l:=l) (cst:=AWM) (m:=6291461) fun c e=>by
  have:=j c e;have h1:=this.1;have h2:=this.2.2;unfold AWM;omega
 unfold AHu;have key:=LL (l:=l) (Q:=AFy) (F:=VK) AWM (2 ^ 57) S J (by omega) ?_ ?_
 .grind
 .intro L v k i h hv hx k0 kb;have hi:i<v.length:=by omega
  have O:at? v (i:Int)=some l[i]:=by rw[FB];exact hx
  have e:=j _ (List.getElem_mem h);have X:=e.1;have Y:=e.2.1;have Z:=e.2.2;have g:AWM l[i]=5+4*l[i].Row.length+2*l[i].Bq.An.flatten.length:=rfl;have B:w64 (k+1)=k+1:=Aq (by omega) (by omega);have E:w64 (k+1+1)=k+1+1:=Aq (by omega) (by omega);have G:w64 (k+1+1+1)=k+1+1+1:=Aq (by omega) (by omega);have H:w64 (k+1+1+1+1)=k+1+1+1+1:=Aq (by omega) (by omega);have I:w64 (k+1+1+1+1+1)=k+1+1+1+1+1:=Aq (by omega) (by omega);obtain⟨a,ea,q,a2,a3,a4⟩:=AFN (l:=l[i].Row) X (k:=k+1+1+1+1+1) (by omega) (by omega);obtain⟨b,eb,y,b2,b3,b4⟩:=AFQ (w:=l[i].Bq) e.2 (k:=a.1) (by omega) (by omega);refine⟨b.1,⟨⟨k,k+1,k+1+1,k+1+1+1,k+1+1+1+1⟩,a.2,⟨b.2⟩⟩,?_,⟨rfl,⟨k0,by omega⟩,by dsimp only;omega,by dsimp only;omega,by omega,a.1,q,by omega,y⟩,by omega,by omega⟩;unfold VK yz y4 y5 y6 y7 y8;dsimp only;rw[B6 hi,BL];simp only[O,AB,AU,Aa,R6 hi,C1,B,E,G,H,I,ea,eb,AZM hi];rw[B4 trivial,B4 trivial]
 grind[VK,y9,BO,AU]
theorem ABU{l:List AX}(H:l.length<=1048576){k c:Int}(E:Fw AFy k l c):AH0 l k=some c:=by
 unfold AH0;refine LJ E H ?_ ?_
 .rintro L i h k S ⟨J,⟨Y,kb⟩,I,O,X,a,ca,a0,cb⟩;have e:w64 (k+1)=k+1:=Aq (by omega) (by omega);have g:w64 (k+1+1)=k+1+1:=Aq (by omega) (by omega);have j:w64 (k+1+1+1)=k+1+1+1:=Aq (by omega) (by omega);have q:w64 (k+1+1+1+1)=k+1+1+1+1:=Aq (by omega) (by omega);have y:w64 (k+1+1+1+1+1)=k+1+1+1+1+1:=Aq (by omega) (by omega);have B:decide (a<0)=false:=by rw[decide_eq_false_iff_not];omega
  have G:decide (S<0)=false:=by rw[decide_eq_false_iff_not];omega
  unfold dq;dsimp only;rw[B6 h,BL];simp only[BG h,AB,J,ne_self,BO,e,g,j,q,y,AFB I ca,AFD O cb,B,G]
 grind[dq,zL,BO,AU]
theorem AFO{h:AF}(g:By h){k:Int}(S:0<=k)(hb:k<=2 ^ 50) :
 ∃j s ps cs td js,AHv h k=some (j,⟨⟨s,h.AQ.Ce,h.AQ.Room,h.AQ.BB,h.AQ.CE,h.AQ.B0,h.AQ.Rest,h.AQ.Cd,h.AQ.C3⟩,h.Now,h.Ay,ps,cs,td,js⟩)/\(k<=j/\j<=2 ^ 55) /\
  ∀r:AF,r.AQ.AZ=s->r.AG=ps->r.AH=cs->r.BE=td->r.BC=js->AH1 r k=some j:=by
 have H:=g.Dr;have I:=g.CN;have J:=g.EN;have L:=g.todo;have O:=g.F5;obtain⟨a,ea,q,a2,a3,a4⟩:=RX (l:=h.AQ.AZ) H S (by omega);obtain⟨b,eb,y,b2,b3,b4⟩:=AFP (l:=h.AG) I (k:=a.1) (by omega) (by omega);obtain⟨c,ec,B,c2,c3,c4⟩:=ABp (l:=h.AH) J g.Dw (k:=b.1) (by omega) (by omega);obtain⟨d,ed,E,d2,d3,d4⟩:=RX (l:=h.BE) L (k:=c.1) (by omega) (by omega);obtain⟨e,ee,G,e2,e3,e4⟩:=RX (l:=h.BC) O (k:=d.1) (by omega) (by omega);refine⟨e.1,a.2,b.2,c.2,d.2,e.2,?_,⟨by omega,by omega⟩,?_⟩
 .grind[AHv,AOd,AB]
 .rintro r X Y Z h4 h5;have n1:decide (a.1<0)=false:=by rw[decide_eq_false_iff_not];omega
  have n2:decide (b.1<0)=false:=by rw[decide_eq_false_iff_not];omega
  have n3:decide (c.1<0)=false:=by rw[decide_eq_false_iff_not];omega
  have n4:decide (d.1<0)=false:=by rw[decide_eq_false_iff_not];omega
  have n5:decide (e.1<0)=false:=by rw[decide_eq_false_iff_not];omega
  unfold AH1 AOV;simp only[X,Y,Z,h4,h5,WC (l:=a.2) (by omega) q,AFC (l:=b.2) (by omega) y,ABU (l:=c.2) (by omega) B,WC (l:=d.2) (by omega) E,WC (l:=e.2) (by omega) G,AB,n1,n2,n3,n4,n5,BO]
theorem AVk{t:List Int}{n:Nat}(e:n<=4)(h:IQ t n=true):t.length<=4:=by
 unfold IQ at h;rw[Je]at h;refine Classical.byContradiction fun a=>?_
 have key:∀i (hi:i<t.length),0<=t[i]/\t[i]<n/\∀j (c:j<i),t[j]'(by omega)≠t[i]:=by
  grind[Ry,CP,CQ,Aq,List.mem_take_iff_getElem]
 have g:=key 0 (by omega);have q:=key 1 (by omega);have y:=key 2 (by omega);have B:=key 3 (by omega);have E:=key 4 (by omega)
 grind
theorem ALa{h:AF}:(ATW h).length<=500:=by
 unfold ATW;split
 .rename_i e;have a:=Kh e;have B:=CR a.1;have g:=E0 MA (m:=10) (fun _=>Af _) h.AG;have j:=E0 (fun c:AX=>[c.AZ.DY]) (m:=1) (fun _=>Af _) h.AH;have q:=E0 (fun x:Int=>[w64 (x+1)]) (m:=1) (fun _=>Af _) h.BC;have y:=AVk (t:=h.BE) (n:=h.AH.length) (by omega) a.2.2.2.2.2.2.1;unfold HQ J6;simp only[AP,AJ,AS];omega
 .simp
theorem AFS:AHw=some ⟨List.replicate 9 []⟩:=by
 unfold AHw;refine(DA (n:=9) (fun i (v:Av)=>((i:Int),v)) (fun i v=>v.An=List.replicate i []) (fun _ _=>some (⟨List.replicate 9 []⟩:Av)) (by omega) ?_ (v:=⟨[]⟩) rfl);rintro L i ⟨s⟩ a hi c
 grind[zC,zB,BH,B4,lim,Bp,List.replicate_succ',AU]
theorem AFR:AOU=some ⟨List.replicate 9 []⟩:=rfl
theorem ALZ{r:Ae}(a:r.AZ.length<=1048576):GY r=some r:=by
 unfold GY;rw[B4 (by unfold lim;omega),List.nil_append]
theorem ALY{r:Ae}(a:r.AZ.length<=1048576):yC r=some r:=by
 unfold yC JX;rw[B4 (by unfold lim;omega),AB]
theorem AK5{w:Av}(a:DP w):AHh w w=some true:=by
 unfold AHh;have:=a.1;rw[AK8 (by omega) fun x c=>by have:=ABt c;have:=a.2;omega,AB,BK,BL]
theorem AK1{c:AX}(a:EC c):AHi c c=some true:=by
 have:=a.1;unfold AHi;rw[ADY,AB,BK,BL,ADX (by omega),AB,BK,BL,AK5 a.2,AB,BK,BL]
theorem ADU{l:List AX}(a:l.length<=1048576)(c:∀x∈l,EC x):AHR l l=some true:=by
 unfold AHR;refine ZO (by omega) ?_ ?_
 .grind[cP,BL,BG,AB,AK1,BK]
 grind[cP,xZ,BO,AU]
theorem AK4{r:Ae}(a:r.AZ.length<=1048576):AHY r r=some true:=by
 grind[AHY,RA,AB,BK,BL]
theorem AK2{h:AF}(a:By h):AHS h h=some true:=by
 have c:=a.Dr;have g:=a.CN;have e:=a.EN;have j:=a.todo;have q:=a.F5;unfold AHS;rw[AK4 c,AB,BK,BL,ne_self,BO,ne_self,BO,ADZ (by omega),AB,BK,BL,ADU e a.Dw,AB,BK,BL,RA (by omega),AB,BK,BL,RA (by omega),AB,BK,BL]
theorem ADV{e:BD}(a:Cw e):AHU e e=some true:=by
 have:=a.laid;unfold AHU;rw[AK2 a.FY,AB,BK,BL,AK9,AB,BK,BL,ne_self,BO,ABG (by omega),AB,BK,BL]
theorem ABq{e:BD}(g:Cw e){k:Int}(h:0<=k)(j:k<=2 ^ 50) :
 ∃c s ps cs td js ld,AHj e k=some (c,⟨⟨⟨s,e.Az.AQ.Ce,e.Az.AQ.Room,e.Az.AQ.BB,e.Az.AQ.CE,e.Az.AQ.B0,e.Az.AQ.Rest,e.Az.AQ.Cd,e.Az.AQ.C3⟩,e.Az.Now,e.Az.Ay,ps,cs,td,js⟩,e.Bl,e.Seq,ld⟩)/\(k<=c/\c<=2 ^ 56) /\
  ∀r:BD,r.Az.AQ.AZ=s->r.Az.AG=ps->r.Az.AH=cs->r.Az.BE=td->r.Az.BC=js->r.Laid=ld->AH2 r k=some c:=by
 have q:=g.laid;obtain⟨a,s,ps,cs,td,js,ea,⟨y,B⟩,ah⟩:=AFO g.FY h j;obtain⟨b,eb,E,G,H,I⟩:=ABs (l:=e.Laid) q (k:=a) (by omega) (by omega);refine⟨b.1,s,ps,cs,td,js,b.2,?_,⟨by omega,by omega⟩,?_⟩
 .grind[AHj,AB]
 grind[AH2,AB,BO,ABW]
theorem Yp(h:AF)(q:Int):(PC h q).length<=2600:=by
 unfold PC;split
 .rename_i c;have a:=ALa (h:=h);unfold ATW at a
  grind[WZ,Hk]
 .simp
end Lv.P
