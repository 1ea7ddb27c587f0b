/- Plain laws about what the program computes. -/
import Derived.Test.YtcmjfplpdjflnaaGreatPBb
import Derived.Test.YtcmjfplpdjflnaaGreatPCb
noncomputable section
set_option linter.unusedVariables false
set_option linter.unusedSimpArgs false
set_option linter.unusedSectionVars false
open Bool renaming not_eq_true->EN
open Int renaming eq_ofNat_of_zero_le->As,toNat_natCast->Ad
open List renaming flatMap_cons->CX,getElem?_eq_getElem->AT,length_append->AP,length_cons->AI,length_nil->AR,length_singleton->Bn,map_append->Cr,map_cons->AJ,set_set->C4,sum_cons->LD,take_add_one->B6,take_length->Du
open Nat renaming le_refl->Ae,lt_or_ge->AZ,mul_add->Mp
namespace Lv.P
open Go (IntKind BinOp UnOp)
theorem Jx{α β γ:Type}{l:List α}(f:α->List β)(J:List β->AA γ){F:(List β×Int->AA γ)->List β×Int->AA γ}(c:l.length<=1048576)(m:Nat)(e:∀x,(f x).length<=m){v0:List β}
 (step:∀L i (h:i<l.length) v,v.length<=v0.length+m*i->F L (v,(i:Int))=L (v++f l[i],w64 ((i:Int)+1))) (stop:∀L v,F L (v,(l.length:Int))=J v):A3 F big (v0,0)=J (v0++l.flatMap f):=by
 refine(C1 (n:=l.length) (fun i (v:List β)=>(v,(i:Int))) (fun i v=>v=v0++(l.take i).flatMap f/\v.length<=v0.length+m*i) (fun i v=>J (v0++l.flatMap f)) (by omega) ?_ ⟨by simp,by simp⟩);rintro L i v ⟨g,a⟩ hi j;rcases AZ i l.length with h|h
 .rw[step L i h v a,Bt h (by omega)]
  grind[List.take_add_one]
 grind
theorem E3{α β:Type}(f:α->List β){m:Nat}(a:∀x,(f x).length<=m):∀l:List α,(l.flatMap f).length<=m*l.length
 | []=>by simp|x::l=>by
  have:=E3 f a l;have:=a x;rw[CX,AP,AI,Mp];omega
def KG(r:Aa):List Int:=[r.Cb,r.Room,r.BA,r.CG,r.B1,r.Rest,r.Ca,r.Cx]++r.AW
def MG(p:AN):List Int:=[p.Id,p.AY,w64 (p.Bi+1),p.BA,p.Co,p.Since,p.Az,p.State,p.Cq,p.DH]
def HY(h:AE):List Int:=
 (([((KG h.AQ).length:Int)]++KG h.AQ++[h.Now,h.Az,(h.AG.length:Int)]++h.AG.flatMap MG)++h.AH.flatMap (fun c=>[c.AW.Db]))++[(h.BF.length:Int)]++h.BF++h.BC.flatMap (fun x=>[w64 (x+1)])
def ASx(h:AE):List Int:=if D8 h=true then HY h else []
theorem Kr{h:AE}(a:D8 h=true):D4 h.AQ=true/\(0<=h.Now/\h.Now<=1000000)/\(1<=h.Az/\h.Az<=1000001)/\h.AG.length<=40/\h.AH.length=h.AQ.AW.length/\KD h=true/\Ig h.BF h.AH.length=true/\MF h.BC h.AH.length=true/\(h.BC.length:Int)=h.AQ.Cx/\MK h=true:=by
 grind[D8,CQ]
theorem Sf{h:AE}(e:B0 h)(a:D8 h=true):(HY h).length<=2000000:=by
 have g:=Kr a;have E:=CM g.1;have j:=E3 MG (m:=10) (fun _=>Ae _) h.AG;have q:=E3 (fun c:Ab=>[c.AW.Db]) (m:=1) (fun _=>Ae _) h.AH;have y:=E3 (fun x:Int=>[w64 (x+1)]) (m:=1) (fun _=>Ae _) h.BC;have B:=e.todo;unfold HY KG;simp only[AP,AI,AR];omega
theorem jx{r:Aa}(c:r.AW.length<=1048576)(a:D4 r=true):AGx r=some (KG r):=by
 unfold AGx;rw[Ip (by omega),AB,a,BB,BK,B8 (by simp only[AI,AR];unfold lim;omega)];rfl
theorem Rc{r:Aa}(c:r.AW.length<=1048576)(a:D4 r=true):lq r=some (KG r):=by
 unfold lq;rw[Gk (by omega),AB,a,BB,BK,B8 (by simp only[AI,AR];unfold lim;omega)];rfl
theorem PG(r:Aa):(KG r).length=8+r.AW.length:=by unfold KG;simp only[AP,AI,AR]
theorem oJ{h:AE}(a:B0 h)(g:D8 h=true):xd h=some (HY h):=by
 have hlim:lim=268435456:=rfl;have j:=Kr g;have X:=CM j.1;have E:=a.CP;have G:=a.EU;have O:=a.todo;have H:=a.GM;have B:∀v:List Int,v.length<=5000000->U2 h v=some (v++[(h.BF.length:Int)]++h.BF++h.BC.flatMap (fun x=>[w64 (x+1)])):=by
  intro v J;unfold U2;rw[B8 (by rw[Li];omega),B8 (by rw[AP,Bn];omega)];refine Jx (l:=h.BC) (fun x=>[w64 (x+1)]) some H 1 (fun _=>Ae _) ?_ ?_
  .grind[cA,BK,BJ,AB,B8]
  .intro L q;unfold cA xe;dsimp only;rw[C0,BL,AV]
 have y:∀v:List Int,v.length<=3000000->U1 h v=some ((v++h.AH.flatMap (fun c=>[c.AW.Db]))++[(h.BF.length:Int)]++h.BF++h.BC.flatMap (fun x=>[w64 (x+1)])):=by
  intro v J;have I:=E3 (fun c:Ab=>[c.AW.Db]) (m:=1) (fun _=>Ae _) h.AH;unfold U1;rw[Jx (l:=h.AH) (fun c=>[c.AW.Db]) (U2 h) G 1 (fun _=>Ae _) ?_ ?_,B _ (by rw[AP];omega)]
  .grind[b9,BK,BJ,AB,B8]
  .intro L q;unfold b9;dsimp only;rw[C0,BL,AV]
 have I:=E3 MG (m:=10) (fun _=>Ae _) h.AG;have S:=PG h.AQ;have Y:=a.Dw;unfold xd;rw[Io a,AB,g,BB,BK,jx a.Dw j.1,AB,B8 (by rw[Bn];omega),B8 (by simp only[AP,Bn,AI,AR];omega)];rw[Jx (l:=h.AG) MG (U1 h) E 10 (fun _=>Ae _) ?_ ?_,y _ (by simp only[AP,Bn,AI,AR];omega)]
 .rfl
 .intro L i hi q e;simp only[AP,Bn,AI,AR]at e;unfold b8;dsimp only;rw[B4 hi,BK,BJ hi,AB,B8 (by simp only[AI,AR];omega)];rfl
 grind[b8,BL,AV]
theorem AK2{h:AE}(a:B0 h)(g:D8 h=true):AGz h=some (HY h):=by
 have hlim:lim=268435456:=rfl;have j:=Kr g;have X:=CM j.1;have E:=a.CP;have G:=a.EU;have O:=a.todo;have H:=a.GM;have B:∀v:List Int,v.length<=5000000->U7 h v=some (v++[(h.BF.length:Int)]++h.BF++h.BC.flatMap (fun x=>[w64 (x+1)])):=by
  intro v J;unfold U7;rw[B8 (by rw[Li];omega),B8 (by rw[AP,Bn];omega)];refine Jx (l:=h.BC) (fun x=>[w64 (x+1)]) some H 1 (fun _=>Ae _) ?_ ?_
  .grind[cR,BK,BJ,AB,B8]
  .intro L q;unfold cR xz;dsimp only;rw[C0,BL,AV]
 have y:∀v:List Int,v.length<=3000000->U6 h v=some ((v++h.AH.flatMap (fun c=>[c.AW.Db]))++[(h.BF.length:Int)]++h.BF++h.BC.flatMap (fun x=>[w64 (x+1)])):=by
  intro v J;have I:=E3 (fun c:Ab=>[c.AW.Db]) (m:=1) (fun _=>Ae _) h.AH;unfold U6;rw[Jx (l:=h.AH) (fun c=>[c.AW.Db]) (U7 h) G 1 (fun _=>Ae _) ?_ ?_,B _ (by rw[AP];omega)]
  .grind[cQ,BK,BJ,AB,B8]
  .intro L q;unfold cQ;dsimp only;rw[C0,BL,AV]
 have I:=E3 MG (m:=10) (fun _=>Ae _) h.AG;have S:=PG h.AQ;have Y:=a.Dw;unfold AGz;rw[Gi a,AB,g,BB,BK,Rc a.Dw j.1,AB,B8 (by rw[Bn];omega),B8 (by simp only[AP,Bn,AI,AR];omega)];rw[Jx (l:=h.AG) MG (U6 h) E 10 (fun _=>Ae _) ?_ ?_,y _ (by simp only[AP,Bn,AI,AR];omega)]
 .rfl
 .intro L i hi q e;simp only[AP,Bn,AI,AR]at e;unfold cP;dsimp only;rw[B4 hi,BK,BJ hi,AB,B8 (by simp only[AI,AR];omega)];rfl
 grind[cP,BL,AV]
theorem AEf{h:AE}(a:B0 h)(g:D8 h=true):xn h=some (HY h):=by
 have hlim:lim=268435456:=rfl;have j:=Kr g;have X:=CM j.1;have E:=a.CP;have G:=a.EU;have O:=a.todo;have H:=a.GM;have B:∀v:List Int,v.length<=5000000->U4 h v=some (v++[(h.BF.length:Int)]++h.BF++h.BC.flatMap (fun x=>[w64 (x+1)])):=by
  intro v J;unfold U4;rw[B8 (by rw[Li];omega),B8 (by rw[AP,Bn];omega)];refine Jx (l:=h.BC) (fun x=>[w64 (x+1)]) some H 1 (fun _=>Ae _) ?_ ?_
  .grind[cJ,BK,BJ,AB,B8]
  .intro L q;unfold cJ xp;dsimp only;rw[C0,BL,AV]
 have y:∀v:List Int,v.length<=3000000->U3 h v=some ((v++h.AH.flatMap (fun c=>[c.AW.Db]))++[(h.BF.length:Int)]++h.BF++h.BC.flatMap (fun x=>[w64 (x+1)])):=by
  intro v J;have I:=E3 (fun c:Ab=>[c.AW.Db]) (m:=1) (fun _=>Ae _) h.AH;unfold U3;rw[Jx (l:=h.AH) (fun c=>[c.AW.Db]) (U4 h) G 1 (fun _=>Ae _) ?_ ?_,B _ (by rw[AP];omega)]
  .grind[cI,BK,BJ,AB,B8]
  .intro L q;unfold cI;dsimp only;rw[C0,BL,AV]
 have I:=E3 MG (m:=10) (fun _=>Ae _) h.AG;have S:=PG h.AQ;have Y:=a.Dw;unfold xn;rw[Gi a,AB,g,BB,BK,Rc a.Dw j.1,AB,B8 (by rw[Bn];omega),B8 (by simp only[AP,Bn,AI,AR];omega)];rw[Jx (l:=h.AG) MG (U3 h) E 10 (fun _=>Ae _) ?_ ?_,y _ (by simp only[AP,Bn,AI,AR];omega)]
 .rfl
 .intro L i hi q e;simp only[AP,Bn,AI,AR]at e;unfold cH;dsimp only;rw[B4 hi,BK,BJ hi,AB,B8 (by simp only[AI,AR];omega)];rfl
 grind[cH,BL,AV]
def MH(h:AE)(q:Int):List UInt8:=if D8 h=true/\inB q 0 1000000=true then four ((J0 (pL (q::HY h)):Nat):Int)++pL (q::HY h) else []
theorem WQ:∀l:List Int,(pL l).length<=5*l.length
 | []=>by simp[pL]|x::l=>by
  have:=WQ l;have:=OD x;unfold pL at *;rw[CX,AP,AI];omega
theorem LA{h:AE}(c:B0 h)(q:Int):ln h q=some (MH h q):=by
 have hlim:lim=268435456:=rfl;have hslim:OE=4611686018427387904:=rfl;unfold ln MH;rw[Io c,AB,BB,AV,GB,AB,AV];by_cases a:D8 h=true
 .have j:=Sf c a;have e:=WQ (q::HY h);rw[AI]at e;rw[a,BK];unfold cG;rw[BB,oJ c a,AB,B8 (by rw[Bn];omega),List.singleton_append,Wr (by rw[AI];omega),AB,ACU (by omega),AB];unfold xm;rw[AB];cases y:inB q 0 1000000 with
  |false=>rfl|true=>
   rw[BK,B8 (by simp only[AI,AR];omega),AX ⟨rfl,rfl⟩];rfl
 .rw[AU (fun g=>a g.1)];rw[EN]at a;rw[a,BL];rfl
theorem N8{h:AE}(c:B0 h)(q:Int):lu h q=some (MH h q):=by
 have hslim:OE=4611686018427387904:=rfl;unfold lu MH orE;by_cases a:D8 h=true
 .have H:=Sf c a;have B:=WQ (q::HY h);rw[AI]at B;have G:=OD q;have E:=WQ (HY h);have y:(HY h).isEmpty=false:=by
   unfold HY;simp
  have j:pN q++pL (HY h)=pL (q::HY h):=rfl;have e:lr h q=some (if inB q 0 1000000=true then four ((J0 (pL (q::HY h)):Nat):Int)++pL (q::HY h) else []):=by
   unfold lr;rw[AEf c a,AB,B8 y,FD,AB,BB];cases I:inB q 0 1000000 with
   |false=>rfl|true=>
    rw[BK,Jj,AB,WB (by omega),AB,B8 (by omega),j,ABI (by omega),AB,B8 (by simp only[AI,AR];omega)];rfl
  grind
 .rw[AU (fun g=>a g.1)];rw[EN]at a;have e:lr h q=none:=by
   unfold lr xn;rw[Gi c,AB,a,BB,BL,AVY]
  rw[e];dsimp only;unfold AGy ANr;rw[Gi c,AB,a,BB,BL,AB]
inductive F5{α:Type}(Q:Int->α->Int->Prop):Int->List α->Int->Prop|nil(k:Int):F5 Q k [] k|cons {k k1 k2:Int} {x:α} {l:List α} (h:Q k x k1) (t:F5 Q k1 l k2):F5 Q k (x::l) k2
section
variable{α:Type}{Q:Int->α->Int->Prop}
theorem F5.snoc{k c e:Int}{l:List α}{x:α}(h:F5 Q k l c)(a:Q c x e):F5 Q k (l++[x]) e:=by
 induction h with
 |nil k=>exact .cons a (.nil _)|cons h t g=>exact .cons h (g a)
theorem AUt{l:List α}(cst:α->Nat){i:Nat}(h:i<l.length):((l.take (i+1)).map cst).sum=((l.take i).map cst).sum+cst l[i]:=by
 grind[List.take_add_one]
theorem AY0{l:List α}(cst:α->Nat)(i:Nat):((l.take i).map cst).sum<=(l.map cst).sum:=by
 grind[List.take_append_drop]
theorem Ml(c:Nat):∀l:List α,(l.map (fun _=>c)).sum=c*l.length| []=>by simp|x::l=>by rw[AJ,LD,Ml c l,AI,Mp];omega
theorem Yn{l:List α}{cst:α->Nat}{m:Nat}(h:∀x∈l,cst x<=m):(l.map cst).sum<=m*l.length:=by
 induction l with
 |nil=>simp|cons x l a=>
  grind[Nat.mul_add]
theorem KB{l:List α}(cst:α->Nat)(M:Int){F:(List α×Int×Int->AA (Int×List α))->List α×Int×Int->AA (Int×List α)}(hl:l.length<=1048576){a:Int}(Y:0<=a)(Z:a+((l.map cst).sum:Nat)<=M)
 (step:∀L (v:List α) (k:Int) (i:Nat) (h:i<l.length),v.length=l.length->v[i]?=some l[i]->0<=k->k+cst l[i]<=M ->
  ∃c g,F L (v,k,(i:Int))=L (v.set i g,c,w64 ((i:Int)+1))/\Q k g c/\k<=c/\c<=k+cst l[i])
 (stop:∀L v k,v.length=l.length->F L (v,k,(l.length:Int))=some (k,v)) :
 ∃r,A3 F big (l,a,0)=some r/\(F5 Q a r.2 r.1/\r.2.length=l.length/\a<=r.1/\r.1<=a+((l.map cst).sum:Nat)):=by
 refine gx (n:=l.length) (fun i (v:List α×Int)=>(v.1,v.2,(i:Int))) (fun i v=>v.1.length=l.length/\v.1.drop i=l.drop i/\F5 Q a (v.1.take i) v.2/\a<=v.2/\v.2<=a+(((l.take i).map cst).sum:Nat)) _ (by omega) ?_ (v:=(l,a)) ⟨rfl,rfl,by simpa using F5.nil a,Int.le_refl _,by simp⟩;rintro L i ⟨v,k⟩ ⟨j,B,q,E,y⟩ hi H;dsimp only at j B q E y H ⊢;rcases AZ i l.length with h|h
 .have G:i<v.length:=by omega
  have e:v[i]=l[i]:=by
   grind[DR]
  have hs:=AUt cst h;have O:=AY0 (l:=l) cst (i+1);obtain⟨c,g,I,J,S,X⟩:=step L v k i h j (by rw[AT G,e]) (by omega) (by omega);rw[I,Bt h (by omega)];refine H (v.set i g,c) ⟨by simp[j],?_,?_,by dsimp only;omega,by dsimp only;omega⟩ h
  .dsimp only;rw[List.drop_set_of_lt (by omega)];have:=congrArg (List.drop 1) B;simpa[List.drop_drop,Nat.add_comm] using this
  .dsimp only;have:(v.set i g).take (i+1)=v.take i++[g]:=by
    rw[B6,List.take_set_of_le (by omega)];simp[G]
   rw[this];exact q.snoc J
 .obtain rfl:i=l.length:=by omega
  rw[stop L v k j];rw[List.take_of_length_le (by omega)]at q;rw[Du]at y;exact⟨_,rfl,q,j,E,y⟩
theorem LP{l:List α}{k c:Int}(g:F5 Q k l c){G:(Int×Int->AA Int)->Int×Int->AA Int}(B:l.length<=1048576)
 (step:∀L i (h:i<l.length) k e,Q k l[i] e->G L (k,(i:Int))=L (e,w64 ((i:Int)+1))) (stop:∀L k,G L (k,(l.length:Int))=some k):A3 G big (k,0)=some c:=by
 refine(C1 (n:=l.length) (fun i (k:Int)=>(k,(i:Int))) (fun i k=>F5 Q k (l.drop i) c) (fun _ _=>some c) (by omega) ?_ (by simpa using g));intro L i k a hi y;rcases AZ i l.length with h|h
 .rw[DR h]at a;cases a with
  |cons j q=>
   rw[step L i h _ _ j,Bt h (by omega)];exact y _ q h
 .obtain rfl:i=l.length:=by omega
  rw[List.drop_length]at a;cases a;exact stop _ _
end
theorem Pb{α:Type}{v:List α}{i:Nat}(h:i<v.length)(a:α):at? (v.set i a) (i:Int)=some a:=by rw[Es];simp[h]
def AWk(k:Int)(x:Int)(k1:Int):Prop:=x=k/\k1=k+1/\0<=k/\k<=2 ^ 60
theorem NC{l:List Int}(c:l.length<=1048576){k:Int}(a:0<=k)(B:k<=2 ^ 59) :
 ∃r,U8 l k=some r/\(F5 AWk k r.2 r.1/\r.2.length=l.length/\k<=r.1/\r.1<=k+1*l.length):=by
 have e:=Ml 1 l;unfold U8;have key:=KB (l:=l) (Q:=AWk) (F:=U9) (fun _=>1) (2 ^ 60) c a (by rw[e];omega) ?_ ?_
 .grind
 .intro L v k i h E g j kb;have hi:i<v.length:=by omega
  have y:at? v (i:Int)=some l[i]:=by rw[Es];exact g
  have q:w64 (k+1)=k+1:=Ah (by omega) (by omega);refine⟨k+1,k,?_,⟨rfl,rfl,j,by omega⟩,by omega,by omega⟩;unfold U9 yA cS
  grind[BK,AB,AV]
 grind[U9,cS,BL,AV]
theorem RY{l:List Int}(e:l.length<=1048576){k a:Int}(c:F5 AWk k l a):U0 l k=some a:=by
 unfold U0;refine LP c e ?_ ?_
 .rintro L i h k q ⟨g,rfl,j,kb⟩
  grind[Ah,b6,BK,BJ,AB,BL]
 grind[b6,xS,BL,AV]
def AFV(k:Int)(x:AN)(k1:Int):Prop:=x=⟨k,k+1,k+1+1,k+1+1+1,k+1+1+1+1,k+1+1+1+1+1,k+1+1+1+1+1+1,k+1+1+1+1+1+1+1,k+1+1+1+1+1+1+1+1,k+1+1+1+1+1+1+1+1+1⟩/\k1=k+1+1+1+1+1+1+1+1+1+1/\0<=k/\k<=2 ^ 60
theorem AEq{l:List AN}(hl:l.length<=1048576){k:Int}(Z:0<=k)(hb:k<=2 ^ 59) :
 ∃r,AG0 l k=some r/\(F5 AFV k r.2 r.1/\r.2.length=l.length/\k<=r.1/\r.1<=k+10*l.length):=by
 have c:=Ml 10 l;unfold AG0;have key:=KB (l:=l) (Q:=AFV) (F:=VA) (fun _=>10) (2 ^ 60) hl Z (by rw[c];omega) ?_ ?_
 .obtain⟨r,J,O,S,X,Y⟩:=key;exact⟨r,J,O,S,X,by rw[c]at Y;omega⟩
 .intro L v k i h e hx k0 kb;have hi:i<v.length:=by omega
  have ha:at? v (i:Int)=some l[i]:=by rw[Es];exact hx
  have g:w64 (k+1)=k+1:=Ah (by omega) (by omega);have j:w64 (k+1+1)=k+1+1:=Ah (by omega) (by omega);have q:w64 (k+1+1+1)=k+1+1+1:=Ah (by omega) (by omega);have y:w64 (k+1+1+1+1)=k+1+1+1+1:=Ah (by omega) (by omega);have B:w64 (k+1+1+1+1+1)=k+1+1+1+1+1:=Ah (by omega) (by omega);have E:w64 (k+1+1+1+1+1+1)=k+1+1+1+1+1+1:=Ah (by omega) (by omega);have G:w64 (k+1+1+1+1+1+1+1)=k+1+1+1+1+1+1+1:=Ah (by omega) (by omega);have H:w64 (k+1+1+1+1+1+1+1+1)=k+1+1+1+1+1+1+1+1:=Ah (by omega) (by omega);have I:w64 (k+1+1+1+1+1+1+1+1+1)=k+1+1+1+1+1+1+1+1+1:=Ah (by omega) (by omega);have a:w64 (k+1+1+1+1+1+1+1+1+1+1)=k+1+1+1+1+1+1+1+1+1+1:=Ah (by omega) (by omega);refine⟨k+1+1+1+1+1+1+1+1+1+1,⟨k,k+1,k+1+1,k+1+1+1,k+1+1+1+1,k+1+1+1+1+1,k+1+1+1+1+1+1,k+1+1+1+1+1+1+1,k+1+1+1+1+1+1+1+1,k+1+1+1+1+1+1+1+1+1⟩,?_,⟨rfl,rfl,k0,by omega⟩,by omega,by omega⟩;unfold VA yC yD yE yF yG yH yI yJ lz l9 XJ;dsimp only;rw[B4 hi,BK];simp only[ha,AB,AV,Ad,Pb hi,C4,g,j,q,y,B,E,G,H,I,a]
 .intro L v k e;unfold VA XJ;dsimp only;rw[e,C0,BL,AV]
theorem AEd{l:List AN}(J:l.length<=1048576){k c:Int}(I:F5 AFV k l c):AHC l k=some c:=by
 unfold AHC;refine LP I J ?_ ?_
 .rintro L i h k X ⟨O,rfl,S,kb⟩;have e:w64 (k+1)=k+1:=Ah (by omega) (by omega);have g:w64 (k+1+1)=k+1+1:=Ah (by omega) (by omega);have j:w64 (k+1+1+1)=k+1+1+1:=Ah (by omega) (by omega);have q:w64 (k+1+1+1+1)=k+1+1+1+1:=Ah (by omega) (by omega);have y:w64 (k+1+1+1+1+1)=k+1+1+1+1+1:=Ah (by omega) (by omega);have B:w64 (k+1+1+1+1+1+1)=k+1+1+1+1+1+1:=Ah (by omega) (by omega);have E:w64 (k+1+1+1+1+1+1+1)=k+1+1+1+1+1+1+1:=Ah (by omega) (by omega);have G:w64 (k+1+1+1+1+1+1+1+1)=k+1+1+1+1+1+1+1+1:=Ah (by omega) (by omega);have H:w64 (k+1+1+1+1+1+1+1+1+1)=k+1+1+1+1+1+1+1+1+1:=Ah (by omega) (by omega);have a:w64 (k+1+1+1+1+1+1+1+1+1+1)=k+1+1+1+1+1+1+1+1+1+1:=Ah (by omega) (by omega);unfold ch;dsimp only;rw[B4 h,BK];simp only[BJ h,AB,O,ne_self,BL,e,g,j,q,y,B,E,G,H,a]
 .intro L k;unfold ch yk;dsimp only;rw[C0,BL,AV]
def tu(k:Int)(x:Af)(k1:Int):Prop:=x=⟨k,k+1,k+1+1,k+1+1+1⟩/\k1=k+1+1+1+1/\0<=k/\k<=2 ^ 60
theorem AEo{l:List Af}(y:l.length<=1048576){k:Int}(j:0<=k)(H:k<=2 ^ 59) :
 ∃r,AG1 l k=some r/\(F5 tu k r.2 r.1/\r.2.length=l.length/\k<=r.1/\r.1<=k+4*l.length):=by
 have B:=Ml 4 l;unfold AG1;have key:=KB (l:=l) (Q:=tu) (F:=VB) (fun _=>4) (2 ^ 60) y j (by rw[B];omega) ?_ ?_
 .grind
 .intro L v k i h I E G kb;have hi:i<v.length:=by omega
  have q:at? v (i:Int)=some l[i]:=by rw[Es];exact E
  have a:w64 (k+1)=k+1:=Ah (by omega) (by omega);have c:w64 (k+1+1)=k+1+1:=Ah (by omega) (by omega);have e:w64 (k+1+1+1)=k+1+1+1:=Ah (by omega) (by omega);have g:w64 (k+1+1+1+1)=k+1+1+1+1:=Ah (by omega) (by omega);refine⟨k+1+1+1+1,⟨k,k+1,k+1+1,k+1+1+1⟩,?_,⟨rfl,rfl,G,by omega⟩,by omega,by omega⟩;unfold VB yK yL yM yN cU;dsimp only;rw[B4 hi,BK];simp only[q,AB,AV,Ad,Pb hi,C4,a,c,e,g]
 grind[VB,cU,BL,AV]
theorem AEc{l:List Af}(e:l.length<=1048576){k a:Int}(c:F5 tu k l a):AHD l k=some a:=by
 unfold AHD;refine LP c e ?_ ?_
 .rintro L i h k q ⟨g,rfl,j,kb⟩
  grind[Ah,cj,BK,BJ,AB,BL]
 grind[cj,ym,BL,AV]
def AWl(k:Int)(x:BH)(k1:Int):Prop:=x=⟨k,k+1⟩/\k1=k+1+1/\0<=k/\k<=2 ^ 60
theorem ASs{l:List BH}(c:l.length<=1048576){k:Int}(a:0<=k)(E:k<=2 ^ 59) :
 ∃r,AGo l k=some r/\(F5 AWl k r.2 r.1/\r.2.length=l.length/\k<=r.1/\r.1<=k+2*l.length):=by
 have e:=Ml 2 l;unfold AGo;have key:=KB (l:=l) (Q:=AWl) (F:=Ux) (fun _=>2) (2 ^ 60) c a (by rw[e];omega) ?_ ?_
 .grind
 .intro L v k i h G g j kb;have hi:i<v.length:=by omega
  have B:at? v (i:Int)=some l[i]:=by rw[Es];exact g
  have q:w64 (k+1)=k+1:=Ah (by omega) (by omega);have y:w64 (k+1+1)=k+1+1:=Ah (by omega) (by omega);refine⟨k+1+1,⟨k,k+1⟩,?_,⟨rfl,rfl,j,by omega⟩,by omega,by omega⟩;unfold Ux xI xJ bz
  grind[BK,AB,AV,Pb,List.set_set]
 grind[Ux,bz,BL,AV]
theorem AST{l:List BH}(e:l.length<=1048576){k a:Int}(c:F5 AWl k l a):AHE l k=some a:=by
 unfold AHE;refine LP c e ?_ ?_
 .rintro L i h k q ⟨g,rfl,j,kb⟩
  grind[Ah,ck,BK,BJ,AB,BL]
 grind[ck,yn,BL,AV]
def AYr(k:Int)(x:Bp)(k1:Int):Prop:=x=⟨k,k+1,k+1+1,k+1+1+1,k+1+1+1+1,k+1+1+1+1+1⟩/\k1=k+1+1+1+1+1+1/\0<=k/\k<=2 ^ 60
theorem ABZ{l:List Bp}(E:l.length<=1048576){k:Int}(y:0<=k)(J:k<=2 ^ 59) :
 ∃r,yb l k=some r/\(F5 AYr k r.2 r.1/\r.2.length=l.length/\k<=r.1/\r.1<=k+6*l.length):=by
 have G:=Ml 6 l;unfold yb;have key:=KB (l:=l) (Q:=AYr) (F:=VC) (fun _=>6) (2 ^ 60) E y (by rw[G];omega) ?_ ?_
 .grind
 .intro L v k i h O H I kb;have hi:i<v.length:=by omega
  have B:at? v (i:Int)=some l[i]:=by rw[Es];exact H
  have a:w64 (k+1)=k+1:=Ah (by omega) (by omega);have c:w64 (k+1+1)=k+1+1:=Ah (by omega) (by omega);have e:w64 (k+1+1+1)=k+1+1+1:=Ah (by omega) (by omega);have g:w64 (k+1+1+1+1)=k+1+1+1+1:=Ah (by omega) (by omega);have j:w64 (k+1+1+1+1+1)=k+1+1+1+1+1:=Ah (by omega) (by omega);have q:w64 (k+1+1+1+1+1+1)=k+1+1+1+1+1+1:=Ah (by omega) (by omega);refine⟨k+1+1+1+1+1+1,⟨k,k+1,k+1+1,k+1+1+1,k+1+1+1+1,k+1+1+1+1+1⟩,?_,⟨rfl,rfl,I,by omega⟩,by omega,by omega⟩;unfold VC yc ye yf yg yh yj cg;dsimp only;rw[B4 hi,BK];simp only[B,AB,AV,Ad,Pb hi,C4,a,c,e,g,j,q]
 grind[VC,cg,BL,AV]
theorem ABE{l:List Bp}(e:l.length<=1048576){k a:Int}(c:F5 AYr k l a):yq l k=some a:=by
 unfold yq;refine LP c e ?_ ?_
 .rintro L i h k I ⟨G,rfl,H,kb⟩;have g:w64 (k+1)=k+1:=Ah (by omega) (by omega);have j:w64 (k+1+1)=k+1+1:=Ah (by omega) (by omega);have q:w64 (k+1+1+1)=k+1+1+1:=Ah (by omega) (by omega);have y:w64 (k+1+1+1+1)=k+1+1+1+1:=Ah (by omega) (by omega);have B:w64 (k+1+1+1+1+1)=k+1+1+1+1+1:=Ah (by omega) (by omega);have E:w64 (k+1+1+1+1+1+1)=k+1+1+1+1+1+1:=Ah (by omega) (by omega);unfold cr
  grind[BK,BJ,AB,BL]
 grind[cr,yr,BL,AV]
theorem AYL{α:Type}{v:List α}{i:Nat}(h:i<v.length)(a:α):(v.set i a)[i]?=some a:=by simp[h]
def AJk(k:Int)(s:List BH)(k1:Int):Prop:=s.length<=1048576/\F5 AWl k s k1/\0<=k/\0<=k1
theorem AA5:∀l:List (List BH),(l.map (fun s=>2*s.length)).sum=2*l.flatten.length| []=>rfl|s::l=>by rw[AJ,LD,AA5 l,List.flatten_cons,AP];omega
theorem AEr{w:A0}(a:DW w){k:Int}(q:0<=k)(O:k<=2 ^ 58) :
 ∃r,AGp w.Ao k=some r/\(F5 AJk k r.2 r.1/\r.2.length=w.Ao.length/\k<=r.1/\r.1<=k+2*w.Ao.flatten.length):=by
 have B:=AA5 w.Ao;have y:=a.1;have I:=a.2;unfold AGp;have key:=KB (l:=w.Ao) (Q:=AJk) (F:=Uy) (fun s=>2*s.length) (2 ^ 59) y q (by rw[B];omega) ?_ ?_
 .grind
 .intro L v k i h X E c kb;have hi:i<v.length:=by omega
  have J:at? v (i:Int)=some w.Ao[i]:=by rw[Es];exact E
  have S:=Ir h;obtain⟨r,e,g,G,j,H⟩:=ASs (l:=w.Ao[i]) (by omega) c (by omega);refine⟨r.1,r.2,?_,⟨by omega,g,c,by omega⟩,j,by push_cast;omega⟩
  grind[Uy,BK,AB,B8]
 grind[Uy,xK,BL,AV]
theorem AEe{l:List (List BH)}(g:l.length<=1048576){k a:Int}(e:F5 AJk k l a):AHF l k=some a:=by
 unfold AHF;refine LP e g ?_ ?_
 .rintro L i h k B ⟨j,c,y,q⟩;unfold cm;dsimp only;rw[B4 h,BK,BJ h,AB,AST j c,AB,BQ,AU (by omega)]
 grind[cm,yo,BL,AV]
def AFU(k:Int)(c:Ab)(k1:Int):Prop:=
 c.AW=⟨k,k+1,k+1+1,k+1+1+1,k+1+1+1+1⟩/\(0<=k/\k<=2 ^ 60)/\c.Row.length<=1048576/\c.Bq.Ao.length<=1048576/\0<=k1/\∃a,F5 tu (k+1+1+1+1+1) c.Row a/\0<=a/\F5 AJk a c.Bq.Ao k1
def AVm(c:Ab):Nat:=5+4*c.Row.length+2*c.Bq.Ao.flatten.length
theorem ABW{l:List Ab}(S:l.length<=1048576)(j:∀c∈l,FJ c){k:Int}(J:0<=k)(hb:k<=2 ^ 56) :
 ∃r,AGq l k=some r/\(F5 AFU k r.2 r.1/\r.2.length=l.length/\k<=r.1/\r.1<=k+2 ^ 50):=by
 have hs:=Yn (l:=l) (cst:=AVm) (m:=6291461) fun c e=>by
  have:=j c e;have h1:=this.1;have h2:=this.2.2;unfold AVm;omega
 unfold AGq;have key:=KB (l:=l) (Q:=AFU) (F:=Uz) AVm (2 ^ 57) S J (by omega) ?_ ?_
 .grind
 .intro L v k i h hv hx k0 kb;have hi:i<v.length:=by omega
  have O:at? v (i:Int)=some l[i]:=by rw[Es];exact hx
  have e:=j _ (List.getElem_mem h);have X:=e.1;have Y:=e.2.1;have Z:=e.2.2;have g:AVm l[i]=5+4*l[i].Row.length+2*l[i].Bq.Ao.flatten.length:=rfl;have B:w64 (k+1)=k+1:=Ah (by omega) (by omega);have E:w64 (k+1+1)=k+1+1:=Ah (by omega) (by omega);have G:w64 (k+1+1+1)=k+1+1+1:=Ah (by omega) (by omega);have H:w64 (k+1+1+1+1)=k+1+1+1+1:=Ah (by omega) (by omega);have I:w64 (k+1+1+1+1+1)=k+1+1+1+1+1:=Ah (by omega) (by omega);obtain⟨a,ea,q,a2,a3,a4⟩:=AEo (l:=l[i].Row) X (k:=k+1+1+1+1+1) (by omega) (by omega);obtain⟨b,eb,y,b2,b3,b4⟩:=AEr (w:=l[i].Bq) e.2 (k:=a.1) (by omega) (by omega);refine⟨b.1,⟨⟨k,k+1,k+1+1,k+1+1+1,k+1+1+1+1⟩,a.2,⟨b.2⟩⟩,?_,⟨rfl,⟨k0,by omega⟩,by dsimp only;omega,by dsimp only;omega,by omega,a.1,q,by omega,y⟩,by omega,by omega⟩;unfold Uz xL xM xN xO xP xQ;dsimp only;rw[B4 hi,BK];simp only[O,AB,AV,Ad,Pb hi,C4,B,E,G,H,I,ea,eb,AYL hi];rw[B8 trivial,B8 trivial]
 grind[Uz,xR,BL,AV]
theorem ABC{l:List Ab}(H:l.length<=1048576){k c:Int}(E:F5 AFU k l c):AHG l k=some c:=by
 unfold AHG;refine LP E H ?_ ?_
 .rintro L i h k S ⟨J,⟨Y,kb⟩,I,O,X,a,ca,a0,cb⟩;have e:w64 (k+1)=k+1:=Ah (by omega) (by omega);have g:w64 (k+1+1)=k+1+1:=Ah (by omega) (by omega);have j:w64 (k+1+1+1)=k+1+1+1:=Ah (by omega) (by omega);have q:w64 (k+1+1+1+1)=k+1+1+1+1:=Ah (by omega) (by omega);have y:w64 (k+1+1+1+1+1)=k+1+1+1+1+1:=Ah (by omega) (by omega);have B:decide (a<0)=false:=by rw[decide_eq_false_iff_not];omega
  have G:decide (S<0)=false:=by rw[decide_eq_false_iff_not];omega
  unfold cq;dsimp only;rw[B4 h,BK];simp only[BJ h,AB,J,ne_self,BL,e,g,j,q,y,AEc I ca,AEe O cb,B,G]
 grind[cq,yp,BL,AV]
theorem AEp{h:AE}(g:B0 h){k:Int}(S:0<=k)(hb:k<=2 ^ 50) :
 ∃j s ps cs td js,AGr h k=some (j,⟨⟨s,h.AQ.Cb,h.AQ.Room,h.AQ.BA,h.AQ.CG,h.AQ.B1,h.AQ.Rest,h.AQ.Ca,h.AQ.Cx⟩,h.Now,h.Az,ps,cs,td,js⟩)/\(k<=j/\j<=2 ^ 55) /\
  ∀r:AE,r.AQ.AW=s->r.AG=ps->r.AH=cs->r.BF=td->r.BC=js->AHH r k=some j:=by
 have H:=g.Dw;have I:=g.CP;have J:=g.EU;have L:=g.todo;have O:=g.GM;obtain⟨a,ea,q,a2,a3,a4⟩:=NC (l:=h.AQ.AW) H S (by omega);obtain⟨b,eb,y,b2,b3,b4⟩:=AEq (l:=h.AG) I (k:=a.1) (by omega) (by omega);obtain⟨c,ec,B,c2,c3,c4⟩:=ABW (l:=h.AH) J g.D1 (k:=b.1) (by omega) (by omega);obtain⟨d,ed,E,d2,d3,d4⟩:=NC (l:=h.BF) L (k:=c.1) (by omega) (by omega);obtain⟨e,ee,G,e2,e3,e4⟩:=NC (l:=h.BC) O (k:=d.1) (by omega) (by omega);refine⟨e.1,a.2,b.2,c.2,d.2,e.2,?_,⟨by omega,by omega⟩,?_⟩
 .grind[AGr,yB,AB]
 .rintro r X Y Z h4 h5;have n1:decide (a.1<0)=false:=by rw[decide_eq_false_iff_not];omega
  have n2:decide (b.1<0)=false:=by rw[decide_eq_false_iff_not];omega
  have n3:decide (c.1<0)=false:=by rw[decide_eq_false_iff_not];omega
  have n4:decide (d.1<0)=false:=by rw[decide_eq_false_iff_not];omega
  have n5:decide (e.1<0)=false:=by rw[decide_eq_false_iff_not];omega
  unfold AHH ANy;simp only[X,Y,Z,h4,h5,RY (l:=a.2) (by omega) q,AEd (l:=b.2) (by omega) y,ABC (l:=c.2) (by omega) B,RY (l:=d.2) (by omega) E,RY (l:=e.2) (by omega) G,AB,n1,n2,n3,n4,n5,BL]
theorem AVA{t:List Int}{n:Nat}(e:n<=4)(h:Ig t n=true):t.length<=4:=by
 unfold Ig at h;rw[Jo]at h;refine Classical.byContradiction fun a=>?_
 have key:∀i (hi:i<t.length),0<=t[i]/\t[i]<n/\∀j (c:j<i),t[j]'(by omega)≠t[i]:=by
  grind[SC,CS,CQ,Ah,List.mem_take_iff_getElem]
 have g:=key 0 (by omega);have q:=key 1 (by omega);have y:=key 2 (by omega);have B:=key 3 (by omega);have E:=key 4 (by omega)
 grind
theorem ALC{h:AE}:(ASx h).length<=500:=by
 unfold ASx;split
 .rename_i e;have a:=Kr e;have B:=CM a.1;have g:=E3 MG (m:=10) (fun _=>Ae _) h.AG;have j:=E3 (fun c:Ab=>[c.AW.Db]) (m:=1) (fun _=>Ae _) h.AH;have q:=E3 (fun x:Int=>[w64 (x+1)]) (m:=1) (fun _=>Ae _) h.BC;have y:=AVA (t:=h.BF) (n:=h.AH.length) (by omega) a.2.2.2.2.2.2.1;unfold HY KG;simp only[AP,AI,AR];omega
 .simp
def Mf(n:Int):BE×Bool:=if Et ⟨n,0,0,n,0⟩=true then (⟨n,0,0,n,0⟩,true) else (⟨0,0,0,0,0⟩,false)
def HM(n:Int):Ab×Bool:=if (Mf n).2=true then (⟨(Mf n).1,[],⟨List.replicate 9 []⟩⟩,true) else (⟨⟨0,0,0,0,0⟩,[],⟨[]⟩⟩,false)
def HP(r:Aa):AE×Bool:=
 if D4 r=true then (⟨r,0,1,[],r.AW.map (fun n=>(HM n).1),[],List.replicate r.Cx.toNat (-1)⟩,true) else (⟨⟨[],0,0,0,0,0,0,0,0⟩,0,0,[],[],[],[]⟩,false)
theorem jD:xT=some ⟨List.replicate 9 []⟩:=by
 unfold xT;refine(C1 (n:=9) (fun i (v:A0)=>((i:Int),v)) (fun i v=>v.Ao=List.replicate i []) (fun _ _=>some (⟨List.replicate 9 []⟩:A0)) (by omega) ?_ (v:=⟨[]⟩) rfl);rintro L i ⟨s⟩ a hi c
 grind[xV,xU,BQ,B8,lim,Bt,List.replicate_succ',AV]
theorem jC:AG7=some ⟨List.replicate 9 []⟩:=rfl
theorem nc{r:Aa}(a:r.AW.length<=1048576):GQ r=some r:=by
 unfold GQ;rw[B8 (by unfold lim;omega),List.nil_append]
theorem na{r:Aa}(a:r.AW.length<=1048576):mY r=some r:=by
 unfold mY Jh;rw[B8 (by unfold lim;omega),AB]
theorem ABg(n:Int):AGs n=some (Mf n):=by
 unfold AGs Mf;rw[OF,AB,BB,B7];split<;>rfl
theorem AEu(n:Int):AGt n=some (HM n):=by
 grind[AGt,HM,ABg,AB,jD,B7]
theorem AEw{r:Aa}(q:r.AW.length<=1048576):AGu r=some (HP r):=by
 unfold AGu HP;rw[Ip (by omega),AB,BB,nc q,AB,B7];by_cases a:D4 r=true
 .have B:=CM a;rw[AX a,AX a];refine C1 (n:=r.AW.length) (fun i (v:AE)=>((i:Int),v)) (fun i v=>v=⟨r,0,1,[],(r.AW.take i).map (fun n=>(HM n).1),[],[]⟩) (fun _ _=>_) (by omega) ?_ (v:=⟨r,0,1,[],[],[],[]⟩) (by simp);rintro L i v c hi g;unfold xY;dsimp only at g ⊢;rcases AZ i r.AW.length with h|h
  .rw[B4 h,BK,BJ h,AB,AEu,AB,B8 (by rw[c,Li];simp;unfold lim;omega),Bt h (by omega)];refine g _ ?_ h;have e:r.AW.take (i+1)=r.AW.take i++[r.AW[i]]:=by rw[B6,AT h];rfl
   rw[c,e,Cr];rfl
  .obtain rfl:i=r.AW.length:=by omega
   rw[C0,BL,AV,c,Du];unfold xW;obtain⟨n,E⟩:=As (show 0<=r.Cx by omega);refine C1 (n:=n) (fun i (v:AE)=>((i:Int),v)) (fun i v=>v=⟨r,0,1,[],r.AW.map (fun n=>(HM n).1),[],List.replicate i (-1)⟩) (fun _ _=>_) (by omega) ?_ (v:=⟨r,0,1,[],r.AW.map (fun n=>(HM n).1),[],[]⟩) rfl;rintro L j w G y g;unfold xZ xX
   grind[BK,B8,lim,Bt,List.replicate_succ',BL,AV]
 .rw[AU a,AU a]
theorem ABf(n:Int):AG6 n=some (Mf n):=by
 unfold AG6 Mf;rw[Ft,AB,BB,B7];split<;>rfl
theorem AEt(n:Int):AG8 n=some (HM n):=by
 grind[AG8,HM,ABf,AB,jC,B7]
theorem AEv{r:Aa}(q:r.AW.length<=1048576):AG9 r=some (HP r):=by
 unfold AG9 HP;rw[Gk (by omega),AB,BB,na q,AB,B7];by_cases a:D4 r=true
 .have B:=CM a;rw[AX a,AX a];refine C1 (n:=r.AW.length) (fun i (v:AE)=>((i:Int),v)) (fun i v=>v=⟨r,0,1,[],(r.AW.take i).map (fun n=>(HM n).1),[],[]⟩) (fun _ _=>_) (by omega) ?_ (v:=⟨r,0,1,[],[],[],[]⟩) (by simp);rintro L i v c hi g;unfold yZ;dsimp only at g ⊢;rcases AZ i r.AW.length with h|h
  .rw[B4 h,BK,BJ h,AB,AEt,AB,B8 (by rw[c,Li];simp;unfold lim;omega),Bt h (by omega)];refine g _ ?_ h;have e:r.AW.take (i+1)=r.AW.take i++[r.AW[i]]:=by rw[B6,AT h];rfl
   rw[c,e,Cr];rfl
  .obtain rfl:i=r.AW.length:=by omega
   rw[C0,BL,AV,c,Du];unfold yX;obtain⟨n,E⟩:=As (show 0<=r.Cx by omega);refine C1 (n:=n) (fun i (v:AE)=>((i:Int),v)) (fun i v=>v=⟨r,0,1,[],r.AW.map (fun n=>(HM n).1),[],List.replicate i (-1)⟩) (fun _ _=>_) (by omega) ?_ (v:=⟨r,0,1,[],r.AW.map (fun n=>(HM n).1),[],[]⟩) rfl;rintro L j w G y g;unfold ya yY
   grind[BK,B8,lim,Bt,List.replicate_succ',BL,AV]
 .rw[AU a,AU a]
theorem pG(n:Int):FJ (HM n).1:=by
 unfold HM;split
 .exact⟨by simp,by simp,by simp⟩
 .exact⟨by simp,by simp,by simp⟩
theorem P1{r:Aa}(a:r.AW.length<=1048576):B0 (HP r).1:=by
 unfold HP;split
 .rename_i c;have e:=CM c;refine⟨a,by simp,by simpa using a,?_,by simp,?_⟩
  .grind[pG]
  .simp;omega
 .exact⟨by simp,by simp,by simp,by simp,by simp,by simp⟩
theorem AKh{w:A0}(a:DW w):AGd w w=some true:=by
 unfold AGd;have:=a.1;rw[AKl (by omega) fun x c=>by have:=ASt c;have:=a.2;omega,AB,BB,BK]
theorem AKe{c:Ab}(a:FJ c):AGe c c=some true:=by
 have:=a.1;unfold AGe;rw[ADF,AB,BB,BK,ADE (by omega),AB,BB,BK,AKh a.2,AB,BB,BK]
theorem ADB{l:List Ab}(a:l.length<=1048576)(c:∀x∈l,FJ x):AGf l l=some true:=by
 unfold AGf;refine Vv (by omega) ?_ ?_
 .grind[bX,BK,BJ,AB,AKe,BB]
 grind[bX,wS,BL,AV]
theorem nC{r:Aa}(a:r.AW.length<=1048576):xF r r=some true:=by
 grind[xF,Ok,AB,BB,BK]
theorem AKf{h:AE}(a:B0 h):AGg h h=some true:=by
 have c:=a.Dw;have g:=a.CP;have e:=a.EU;have j:=a.todo;have q:=a.GM;unfold AGg;rw[nC c,AB,BB,BK,ne_self,BL,ne_self,BL,ADG (by omega),AB,BB,BK,ADB e a.D1,AB,BB,BK,Ok (by omega),AB,BB,BK,Ok (by omega),AB,BB,BK]
theorem ADC{e:A7}(a:Cf e):AGw e e=some true:=by
 have:=a.laid;unfold AGw;rw[AKf a.FN,AB,BB,BK,AKm,AB,BB,BK,ne_self,BL,AA0 (by omega),AB,BB,BK]
theorem ABX{e:A7}(g:Cf e){k:Int}(h:0<=k)(j:k<=2 ^ 50) :
 ∃c s ps cs td js ld,AHB e k=some (c,⟨⟨⟨s,e.A2.AQ.Cb,e.A2.AQ.Room,e.A2.AQ.BA,e.A2.AQ.CG,e.A2.AQ.B1,e.A2.AQ.Rest,e.A2.AQ.Ca,e.A2.AQ.Cx⟩,e.A2.Now,e.A2.Az,ps,cs,td,js⟩,e.Bg,e.Seq,ld⟩)/\(k<=c/\c<=2 ^ 56) /\
  ∀r:A7,r.A2.AQ.AW=s->r.A2.AG=ps->r.A2.AH=cs->r.A2.BF=td->r.A2.BC=js->r.Laid=ld->AHI r k=some c:=by
 have q:=g.laid;obtain⟨a,s,ps,cs,td,js,ea,⟨y,B⟩,ah⟩:=AEp g.FN h j;obtain⟨b,eb,E,G,H,I⟩:=ABZ (l:=e.Laid) q (k:=a) (by omega) (by omega);refine⟨b.1,s,ps,cs,td,js,b.2,?_,⟨by omega,by omega⟩,?_⟩
 .grind[AHB,AB]
 grind[AHI,AB,BL,ABE]
def JP:A7:=⟨⟨⟨[],0,0,0,0,0,0,0,0⟩,0,0,[],[],[],[]⟩,⟨⟨[],0⟩,⟨[],0⟩,⟨[],0⟩⟩,0,[]⟩
def Hu(r:Aa):A7×Bool:=
 if (HP r).2=true then (⟨(HP r).1,⟨⟨[],0⟩,⟨MH (HP r).1 0,((MH (HP r).1 0).length:Int)⟩,⟨[],0⟩⟩,0,[]⟩,true) else (JP,false)
theorem Mi(h:AE)(q:Int):(MH h q).length<=2600:=by
 unfold MH;split
 .rename_i c;have a:=ALC (h:=h);unfold ASx at a
  grind[WQ,Hr]
 .simp
theorem ABe{r:Aa}(a:r.AW.length<=1048576):AG5 r=some (Hu r):=by
 unfold AG5 Hu;rw[AEw a,AB,BB,LA (P1 a),AB,B7];split<;>rfl
theorem ABd{r:Aa}(a:r.AW.length<=1048576):AHA r=some (Hu r):=by
 have e:=Mi (HP r).1 0;have c:H9 ⟨MH (HP r).1 0,0⟩=true:=by
  grind[H9,CQ]
 unfold AHA Hu Y5;rw[AEv a,AB,BB,N8 (P1 a),AB,HX,AB,c,BB,BK,AB,B7];split<;>rfl
theorem ka{r:Aa}(a:r.AW.length<=1048576):Cf (Hu r).1:=by
 have c:=Mi (HP r).1 0;unfold Hu;split
 .exact⟨P1 a,by simp,by dsimp only;omega,by simp,by simp⟩
 .exact⟨⟨by simp[JP],by simp[JP],by simp[JP],by simp[JP],by simp[JP],by simp[JP]⟩,by simp[JP],by simp[JP],by simp[JP],by simp[JP]⟩
end Lv.P
