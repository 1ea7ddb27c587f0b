/- Plain laws about what the program computes. -/
import Derived.Test.YtnjoipcemhflkaaGreatPBb
import Derived.Test.YtnjoipcemhflkaaGreatPCb
noncomputable section
set_option linter.unusedVariables false
set_option linter.unusedSimpArgs false
set_option linter.unusedSectionVars false
open Bool renaming not_eq_true->Ev
open List renaming flatMap_cons->CZ,length_append->AK,length_cons->AI,length_nil->AP,length_singleton->Bo
open Nat renaming le_refl->Ad,lt_or_ge->AZ
namespace Lv.P
open Go (IntKind BinOp UnOp)
theorem KZ{α β γ:Type}{l:List α}(f:α->List β)(J:List β->AA γ){F:(List β×Int->AA γ)->List β×Int->AA γ}(e:l.length<=1048576)(m:Nat)(g:∀x,(f x).length<=m){a:List β}
 (step:∀L i (h:i<l.length) v,v.length<=a.length+m*i->F L (v,(i:Int))=L (v++f l[i],w64 ((i:Int)+1))) (stop:∀L v,F L (v,(l.length:Int))=J v):BD F big (a,0)=J (a++l.flatMap f):=by
 refine(C3 (n:=l.length) (fun i (v:List β)=>(v,(i:Int))) (fun i v=>v=a++(l.take i).flatMap f/\v.length<=a.length+m*i) (fun i v=>J (a++l.flatMap f)) (by omega) ?_ ⟨by simp,by simp⟩);rintro L i v ⟨j,c⟩ hi q;rcases AZ i l.length with h|h
 .rw[step L i h v c,Bn h (by omega)]
  grind[List.take_add_one]
 grind
theorem FX{α β:Type}(f:α->List β){m:Nat}(a:∀x,(f x).length<=m):∀l:List α,(l.flatMap f).length<=m*l.length
 | []=>by simp|x::l=>by
  have:=FX f a l;have:=a x;rw[CZ,AK,AI,Nat.mul_add];omega
def KQ(r:Aa):List Int:=[r.CS,r.Room,r.BE,r.CE,r.Bz,r.Rest,r.CY,r.Cu]++r.AY
def LN(p:AU):List Int:=[p.Id,p.Ab,w64 (p.Bu+1),p.BE,p.DJ,p.Since,p.A0,p.State,p.C7,p.Dh]
def F6(h:AE):List Int:=
 (([((KQ h.AQ).length:Int)]++KQ h.AQ++[h.Now,h.A0,(h.AG.length:Int)]++h.AG.flatMap LN)++h.AH.flatMap (fun c=>[c.AY.Dv]))++[(h.BB.length:Int)]++h.BB++h.A9.flatMap (fun x=>[w64 (x+1)])
def ATF(h:AE):List Int:=if DD h=true then F6 h else []
theorem JL{h:AE}(a:DD h=true):Dz h.AQ=true/\(0<=h.Now/\h.Now<=1000000)/\(1<=h.A0/\h.A0<=1000001)/\h.AG.length<=40/\h.AH.length=h.AQ.AY.length/\Ku h=true/\HW h.BB h.AH.length=true/\JX h.A9 h.AH.length=true/\(h.A9.length:Int)=h.AQ.Cu/\M6 h=true:=by
 grind[DD,CA]
theorem T9{h:AE}(e:Bt h)(a:DD h=true):(F6 h).length<=2000000:=by
 have g:=JL a;have E:=CI g.1;have j:=FX LN (m:=10) (fun _=>Ad _) h.AG;have q:=FX (fun c:Ae=>[c.AY.Dv]) (m:=1) (fun _=>Ad _) h.AH;have y:=FX (fun x:Int=>[w64 (x+1)]) (m:=1) (fun _=>Ad _) h.A9;have B:=e.todo;unfold F6 KQ;simp only[AK,AI,AP];omega
theorem n9{r:Aa}(c:r.AY.length<=1048576)(a:Dz r=true):Wa r=some (KQ r):=by
 unfold Wa;rw[IH (by omega),AB,a,BK,BP,B8 (by simp only[AI,AP];unfold lim;omega)];rfl
theorem S5{r:Aa}(c:r.AY.length<=1048576)(a:Dz r=true):qF r=some (KQ r):=by
 unfold qF;rw[HD (by omega),AB,a,BK,BP,B8 (by simp only[AI,AP];unfold lim;omega)];rfl
theorem Lg(r:Aa):(KQ r).length=8+r.AY.length:=by unfold KQ;simp only[AK,AI,AP]
theorem tU{h:AE}(a:Bt h)(g:DD h=true):AJn h=some (F6 h):=by
 have hlim:lim=268435456:=rfl;have j:=JL g;have X:=CI j.1;have E:=a.CM;have G:=a.Ds;have O:=a.todo;have H:=a.Fk;have B:∀v:List Int,v.length<=5000000->Ab3 h v=some (v++[(h.BB.length:Int)]++h.BB++h.A9.flatMap (fun x=>[w64 (x+1)])):=by
  intro v J;unfold Ab3;rw[B8 (by rw[NB];omega),B8 (by rw[AK,Bo];omega)];refine KZ (l:=h.A9) (fun x=>[w64 (x+1)]) some H 1 (fun _=>Ad _) ?_ ?_
  .grind[AdB,BP,BG,AB,B8]
  .intro L q;unfold AdB Afb;dsimp only;rw[Cr,Bb,AV]
 have y:∀v:List Int,v.length<=3000000->Ab2 h v=some ((v++h.AH.flatMap (fun c=>[c.AY.Dv]))++[(h.BB.length:Int)]++h.BB++h.A9.flatMap (fun x=>[w64 (x+1)])):=by
  intro v J;have I:=FX (fun c:Ae=>[c.AY.Dv]) (m:=1) (fun _=>Ad _) h.AH;unfold Ab2;rw[KZ (l:=h.AH) (fun c=>[c.AY.Dv]) (Ab3 h) G 1 (fun _=>Ad _) ?_ ?_,B _ (by rw[AK];omega)]
  .grind[AdA,BP,BG,AB,B8]
  .intro L q;unfold AdA;dsimp only;rw[Cr,Bb,AV]
 have I:=FX LN (m:=10) (fun _=>Ad _) h.AG;have S:=Lg h.AQ;have Y:=a.De;unfold AJn;rw[GJ a,AB,g,BK,BP,n9 a.De j.1,AB,B8 (by rw[Bo];omega),B8 (by simp only[AK,Bo,AI,AP];omega)];rw[KZ (l:=h.AG) LN (Ab2 h) E 10 (fun _=>Ad _) ?_ ?_,y _ (by simp only[AK,Bo,AI,AP];omega)]
 .rfl
 .intro L i hi q e;simp only[AK,Bo,AI,AP]at e;unfold Ac9;dsimp only;rw[B9 hi,BP,BG hi,AB,B8 (by simp only[AI,AP];omega)];rfl
 grind[Ac9,Bb,AV]
theorem ANh{h:AE}(a:Bt h)(g:DD h=true):qA h=some (F6 h):=by
 have hlim:lim=268435456:=rfl;have j:=JL g;have X:=CI j.1;have E:=a.CM;have G:=a.Ds;have O:=a.todo;have H:=a.Fk;have B:∀v:List Int,v.length<=5000000->Ab1 h v=some (v++[(h.BB.length:Int)]++h.BB++h.A9.flatMap (fun x=>[w64 (x+1)])):=by
  intro v J;unfold Ab1;rw[B8 (by rw[NB];omega),B8 (by rw[AK,Bo];omega)];refine KZ (l:=h.A9) (fun x=>[w64 (x+1)]) some H 1 (fun _=>Ad _) ?_ ?_
  .grind[Ac8,BP,BG,AB,B8]
  .intro L q;unfold Ac8 AfY;dsimp only;rw[Cr,Bb,AV]
 have y:∀v:List Int,v.length<=3000000->Ab0 h v=some ((v++h.AH.flatMap (fun c=>[c.AY.Dv]))++[(h.BB.length:Int)]++h.BB++h.A9.flatMap (fun x=>[w64 (x+1)])):=by
  intro v J;have I:=FX (fun c:Ae=>[c.AY.Dv]) (m:=1) (fun _=>Ad _) h.AH;unfold Ab0;rw[KZ (l:=h.AH) (fun c=>[c.AY.Dv]) (Ab1 h) G 1 (fun _=>Ad _) ?_ ?_,B _ (by rw[AK];omega)]
  .grind[Ac7,BP,BG,AB,B8]
  .intro L q;unfold Ac7;dsimp only;rw[Cr,Bb,AV]
 have I:=FX LN (m:=10) (fun _=>Ad _) h.AG;have S:=Lg h.AQ;have Y:=a.De;unfold qA;rw[Fe a,AB,g,BK,BP,S5 a.De j.1,AB,B8 (by rw[Bo];omega),B8 (by simp only[AK,Bo,AI,AP];omega)];rw[KZ (l:=h.AG) LN (Ab0 h) E 10 (fun _=>Ad _) ?_ ?_,y _ (by simp only[AK,Bo,AI,AP];omega)]
 .rfl
 .intro L i hi q e;simp only[AK,Bo,AI,AP]at e;unfold Ac6;dsimp only;rw[B9 hi,BP,BG hi,AB,B8 (by simp only[AI,AP];omega)];rfl
 grind[Ac6,Bb,AV]
theorem AHh{h:AE}(a:Bt h)(g:DD h=true):qG h=some (F6 h):=by
 have hlim:lim=268435456:=rfl;have j:=JL g;have X:=CI j.1;have E:=a.CM;have G:=a.Ds;have O:=a.todo;have H:=a.Fk;have B:∀v:List Int,v.length<=5000000->Ab5 h v=some (v++[(h.BB.length:Int)]++h.BB++h.A9.flatMap (fun x=>[w64 (x+1)])):=by
  intro v J;unfold Ab5;rw[B8 (by rw[NB];omega),B8 (by rw[AK,Bo];omega)];refine KZ (l:=h.A9) (fun x=>[w64 (x+1)]) some H 1 (fun _=>Ad _) ?_ ?_
  .grind[AdH,BP,BG,AB,B8]
  .intro L q;unfold AdH Afe;dsimp only;rw[Cr,Bb,AV]
 have y:∀v:List Int,v.length<=3000000->Ab4 h v=some ((v++h.AH.flatMap (fun c=>[c.AY.Dv]))++[(h.BB.length:Int)]++h.BB++h.A9.flatMap (fun x=>[w64 (x+1)])):=by
  intro v J;have I:=FX (fun c:Ae=>[c.AY.Dv]) (m:=1) (fun _=>Ad _) h.AH;unfold Ab4;rw[KZ (l:=h.AH) (fun c=>[c.AY.Dv]) (Ab5 h) G 1 (fun _=>Ad _) ?_ ?_,B _ (by rw[AK];omega)]
  .grind[AdG,BP,BG,AB,B8]
  .intro L q;unfold AdG;dsimp only;rw[Cr,Bb,AV]
 have I:=FX LN (m:=10) (fun _=>Ad _) h.AG;have S:=Lg h.AQ;have Y:=a.De;unfold qG;rw[Fe a,AB,g,BK,BP,S5 a.De j.1,AB,B8 (by rw[Bo];omega),B8 (by simp only[AK,Bo,AI,AP];omega)];rw[KZ (l:=h.AG) LN (Ab4 h) E 10 (fun _=>Ad _) ?_ ?_,y _ (by simp only[AK,Bo,AI,AP];omega)]
 .rfl
 .intro L i hi q e;simp only[AK,Bo,AI,AP]at e;unfold AdF;dsimp only;rw[B9 hi,BP,BG hi,AB,B8 (by simp only[AI,AP];omega)];rfl
 grind[AdF,Bb,AV]
def HU(h:AE)(q:Int):List UInt8:=if DD h=true/\inB q 0 1000000=true then four ((KJ (pL (q::F6 h)):Nat):Int)++pL (q::F6 h) else []
theorem YD:∀l:List Int,(pL l).length<=5*l.length
 | []=>by simp[pL]|x::l=>by
  have:=YD l;have:=PH x;unfold pL at *;rw[CZ,AK,AI];omega
theorem Lu{h:AE}(c:Bt h)(q:Int):ABA h q=some (HU h q):=by
 have hlim:lim=268435456:=rfl;have hslim:Mn=4611686018427387904:=rfl;unfold ABA HU;rw[GJ c,AB,BK,AV,Gk,AB,AV];by_cases a:DD h=true
 .have j:=T9 c a;have e:=YD (q::F6 h);rw[AI]at e;rw[a,BP];unfold AdE;rw[BK,tU c a,AB,B8 (by rw[Bo];omega),List.singleton_append,Yd (by rw[AI];omega),AB,AEq (by omega),AB];unfold AA7;rw[AB];cases y:inB q 0 1000000 with
  |false=>rfl|true=>
   rw[BP,B8 (by simp only[AI,AP];omega),AW ⟨rfl,rfl⟩];rfl
 .rw[AR (fun g=>a g.1)];rw[Ev]at a;rw[a,Bb];rfl
theorem O9{h:AE}(c:Bt h)(q:Int):AJi h q=some (HU h q):=by
 have hslim:Mn=4611686018427387904:=rfl;unfold AJi HU orE;by_cases a:DD h=true
 .have H:=T9 c a;have B:=YD (q::F6 h);rw[AI]at B;have G:=PH q;have E:=YD (F6 h);have y:(F6 h).isEmpty=false:=by
   unfold F6;simp
  have j:pN q++pL (F6 h)=pL (q::F6 h):=rfl;have e:AAq h q=some (if inB q 0 1000000=true then four ((KJ (pL (q::F6 h)):Nat):Int)++pL (q::F6 h) else []):=by
   unfold AAq;rw[AHh c a,AB,B8 y,Fb,AB,BK];cases I:inB q 0 1000000 with
   |false=>rfl|true=>
    rw[BP,KM,AB,Xq (by omega),AB,B8 (by omega),j,ADh (by omega),AB,B8 (by simp only[AI,AP];omega)];rfl
  grind
 .rw[AR (fun g=>a g.1)];rw[Ev]at a;have e:AAq h q=none:=by
   unfold AAq qG;rw[Fe c,AB,a,BK,Bb,AVz]
  rw[e];dsimp only;unfold AQP pz;rw[Fe c,AB,a,BK,Bb,AB]
section
variable{α:Type}{Q:Int->α->Int->Prop}
end
theorem AVd{t:List Int}{n:Nat}(e:n<=4)(h:HW t n=true):t.length<=4:=by
 unfold HW at h;rw[JY]at h;refine Classical.byContradiction fun a=>?_
 have key:∀i (hi:i<t.length),0<=t[i]/\t[i]<n/\∀j (c:j<i),t[j]'(by omega)≠t[i]:=by
  grind[RW,CO,CA,A2,List.mem_take_iff_getElem]
 have g:=key 0 (by omega);have q:=key 1 (by omega);have y:=key 2 (by omega);have B:=key 3 (by omega);have E:=key 4 (by omega)
 grind
theorem ANp{h:AE}:(ATF h).length<=500:=by
 unfold ATF;split
 .rename_i e;have a:=JL e;have B:=CI a.1;have g:=FX LN (m:=10) (fun _=>Ad _) h.AG;have j:=FX (fun c:Ae=>[c.AY.Dv]) (m:=1) (fun _=>Ad _) h.AH;have q:=FX (fun x:Int=>[w64 (x+1)]) (m:=1) (fun _=>Ad _) h.A9;have y:=AVd (t:=h.BB) (n:=h.AH.length) (by omega) a.2.2.2.2.2.2.1;unfold F6 KQ;simp only[AK,AI,AP];omega
 .simp
def LX(n:Int):BI×Bool:=if Ed ⟨n,0,0,n,0⟩=true then (⟨n,0,0,n,0⟩,true) else (⟨0,0,0,0,0⟩,false)
def Gb(n:Int):Ae×Bool:=if (LX n).2=true then (⟨(LX n).1,[],⟨List.replicate 9 []⟩⟩,true) else (⟨⟨0,0,0,0,0⟩,[],⟨[]⟩⟩,false)
def DU(r:Aa):AE×Bool:=
 if Dz r=true then (⟨r,0,1,[],r.AY.map (fun n=>(Gb n).1),[],List.replicate r.Cu.toNat (-1)⟩,true) else (⟨⟨[],0,0,0,0,0,0,0,0⟩,0,0,[],[],[],[]⟩,false)
theorem m0:AJk=some ⟨List.replicate 9 []⟩:=by
 unfold AJk;refine(C3 (n:=9) (fun i (v:Aw)=>((i:Int),v)) (fun i v=>v.Ar=List.replicate i []) (fun _ _=>some (⟨List.replicate 9 []⟩:Aw)) (by omega) ?_ (v:=⟨[]⟩) rfl);rintro L i ⟨s⟩ a hi c
 grind[Afa,AfZ,BQ,B8,lim,Bn,List.replicate_succ',AV]
theorem mz:qI=some ⟨List.replicate 9 []⟩:=rfl
theorem sd{r:Aa}(a:r.AY.length<=1048576):AJj r=some r:=by
 unfold AJj;rw[B8 (by unfold lim;omega),List.nil_append]
theorem sb{r:Aa}(a:r.AY.length<=1048576):KK r=some r:=by
 unfold KK AJs;rw[B8 (by unfold lim;omega),AB]
theorem AD2(n:Int):Gy n=some (LX n):=by
 unfold Gy LX;rw[PL,AB,BK,Bi];split<;>rfl
theorem AH3(n:Int):ABJ n=some (Gb n):=by
 grind[ABJ,Gb,AD2,AB,m0,Bi]
theorem my{r:Aa}(q:r.AY.length<=1048576):AJr r=some (DU r):=by
 unfold AJr DU;rw[IH (by omega),AB,BK,sd q,AB,Bi];by_cases a:Dz r=true
 .have B:=CI a;rw[AW a,AW a];refine C3 (n:=r.AY.length) (fun i (v:AE)=>((i:Int),v)) (fun i v=>v=⟨r,0,1,[],(r.AY.take i).map (fun n=>(Gb n).1),[],[]⟩) (fun _ _=>_) (by omega) ?_ (v:=⟨r,0,1,[],[],[],[]⟩) (by simp);rintro L i v c hi g;unfold Afl;dsimp only at g ⊢;rcases AZ i r.AY.length with h|h
  .rw[B9 h,BP,BG h,AB,AH3,AB,B8 (by rw[c,NB];simp;unfold lim;omega),Bn h (by omega)];refine g _ ?_ h;have e:r.AY.take (i+1)=r.AY.take i++[r.AY[i]]:=by rw[List.take_add_one,List.getElem?_eq_getElem h];rfl
   rw[c,e,List.map_append];rfl
  .obtain rfl:i=r.AY.length:=by omega
   rw[Cr,Bb,AV,c,List.take_length];unfold Afj;obtain⟨n,E⟩:=Int.eq_ofNat_of_zero_le (show 0<=r.Cu by omega);refine C3 (n:=n) (fun i (v:AE)=>((i:Int),v)) (fun i v=>v=⟨r,0,1,[],r.AY.map (fun n=>(Gb n).1),[],List.replicate i (-1)⟩) (fun _ _=>_) (by omega) ?_ (v:=⟨r,0,1,[],r.AY.map (fun n=>(Gb n).1),[],[]⟩) rfl;rintro L j w G y g;unfold Afm Afk
   grind[BP,B8,lim,Bn,List.replicate_succ',Bb,AV]
 .rw[AR a,AR a]
theorem uL(n:Int):FD (Gb n).1:=by
 unfold Gb;split
 .exact⟨by simp,by simp,by simp⟩
 .exact⟨by simp,by simp,by simp⟩
theorem JM{r:Aa}(a:r.AY.length<=1048576):Bt (DU r).1:=by
 unfold DU;split
 .rename_i c;have e:=CI c;refine⟨a,by simp,by simpa using a,?_,by simp,?_⟩
  .grind[uL]
  .simp;omega
 .exact⟨by simp,by simp,by simp,by simp,by simp,by simp⟩
def Hj:Ap:=⟨⟨⟨[],0,0,0,0,0,0,0,0⟩,0,0,[],[],[],[]⟩,⟨⟨[],0⟩,⟨[],0⟩,⟨[],0⟩⟩,0,[]⟩
def FW(r:Aa):Ap×Bool:=
 if (DU r).2=true then (⟨(DU r).1,⟨⟨[],0⟩,⟨HU (DU r).1 0,((HU (DU r).1 0).length:Int)⟩,⟨[],0⟩⟩,0,[]⟩,true) else (Hj,false)
theorem JP(h:AE)(q:Int):(HU h q).length<=2600:=by
 unfold HU;split
 .rename_i c;have a:=ANp (h:=h);unfold ATF at a
  grind[YD,HB]
 .simp
theorem AD0{r:Aa}(a:r.AY.length<=1048576):ABM r=some (FW r):=by
 unfold ABM FW;rw[my a,AB,BK,Lu (JM a),AB,Bi];split<;>rfl
theorem Ug{r:Aa}(a:r.AY.length<=1048576):Cc (FW r).1:=by
 have c:=JP (DU r).1 0;unfold FW;split
 .exact⟨JM a,by simp,by dsimp only;omega,by simp,by simp⟩
 .exact⟨⟨by simp[Hj],by simp[Hj],by simp[Hj],by simp[Hj],by simp[Hj],by simp[Hj]⟩,by simp[Hj],by simp[Hj],by simp[Hj],by simp[Hj]⟩
end Lv.P
