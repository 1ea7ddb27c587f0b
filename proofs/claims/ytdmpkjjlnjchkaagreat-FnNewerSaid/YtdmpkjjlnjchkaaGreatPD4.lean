/- Plain laws about what the program computes. -/
import Derived.Test.YtdmpkjjlnjchkaaGreatPB4
import Derived.Test.YtdmpkjjlnjchkaaGreatPC4
noncomputable section
set_option linter.unusedVariables false
set_option linter.unusedSimpArgs false
set_option linter.unusedSectionVars false
open Bool renaming not_eq_true->Er
open List renaming flatMap_cons->Cn,length_append->AM,length_cons->AH,length_nil->AN,length_singleton->By
open Nat renaming le_refl->Af,lt_or_ge->AT
namespace Lv.P
open Go (IntKind BinOp UnOp)
theorem O5{α β γ:Type}{l:List α}(f:α->List β)(J:List β->AA γ){F:(List β×Int->AA γ)->List β×Int->AA γ}(e:l.length<=1048576)(m:Nat)(g:∀x,(f x).length<=m){a:List β}
 (step:∀L i (h:i<l.length) v,v.length<=a.length+m*i->F L (v,(i:Int))=L (v++f l[i],w64 ((i:Int)+1))) (stop:∀L v,F L (v,(l.length:Int))=J v):A4 F big (a,0)=J (a++l.flatMap f):=by
 refine(C6 (n:=l.length) (fun i (v:List β)=>(v,(i:Int))) (fun i v=>v=a++(l.take i).flatMap f/\v.length<=a.length+m*i) (fun i v=>J (a++l.flatMap f)) (by omega) ?_ ⟨by simp,by simp⟩);rintro L i v ⟨j,c⟩ hi q;rcases AT i l.length with h|h
 .rw[step L i h v c,BU h (by omega)]
  grind[List.take_add_one]
 grind
theorem FY{α β:Type}(f:α->List β){m:Nat}(a:∀x,(f x).length<=m):∀l:List α,(l.flatMap f).length<=m*l.length
 | []=>by simp|x::l=>by
  have:=FY f a l;have:=a x;rw[Cn,AM,AH,Nat.mul_add];omega
def LO(r:AZ):List Int:=[r.CJ,r.Room,r.A2,r.CB,r.Bq,r.Rest,r.CL,r.Cs]++r.AV
def Ma(p:AK):List Int:=[p.Id,p.Aa,w64 (p.Bl+1),p.A2,p.Cj,p.Since,p.Ap,p.State,p.Cf,p.Cu]
def GH(h:AD):List Int:=
 (([((LO h.AO).length:Int)]++LO h.AO++[h.Now,h.Ap,(h.AG.length:Int)]++h.AG.flatMap Ma)++h.AI.flatMap (fun c=>[c.AV.DT]))++[(h.BC.length:Int)]++h.BC++h.A8.flatMap (fun x=>[w64 (x+1)])
def AaU(h:AD):List Int:=if DR h=true then GH h else []
theorem J0{h:AD}(a:DR h=true):Dp h.AO=true/\(0<=h.Now/\h.Now<=1000000)/\(1<=h.Ap/\h.Ap<=1000001)/\h.AG.length<=40/\h.AI.length=h.AO.AV.length/\L0 h=true/\Jw h.BC h.AI.length=true/\Nq h.A8 h.AI.length=true/\(h.A8.length:Int)=h.AO.Cs/\O7 h=true:=by
 grind[DR,CY]
theorem aa{h:AD}(e:Bp h)(a:DR h=true):(GH h).length<=2000000:=by
 have g:=J0 a;have E:=CT g.1;have j:=FY Ma (m:=10) (fun _=>Af _) h.AG;have q:=FY (fun c:AY=>[c.AV.DT]) (m:=1) (fun _=>Af _) h.AI;have y:=FY (fun x:Int=>[w64 (x+1)]) (m:=1) (fun _=>Af _) h.A8;have B:=e.todo;unfold GH LO;simp only[AM,AH,AN];omega
theorem zN{r:AZ}(c:r.AV.length<=1048576)(a:Dp r=true):Agx r=some (LO r):=by
 unfold Agx;rw[HS (by omega),AB,a,BI,BH,B9 (by simp only[AH,AN];unfold lim;omega)];rfl
theorem ZP{r:AZ}(c:r.AV.length<=1048576)(a:Dp r=true):AX8 r=some (LO r):=by
 unfold AX8;rw[HO (by omega),AB,a,BI,BH,B9 (by simp only[AH,AN];unfold lim;omega)];rfl
theorem NF(r:AZ):(LO r).length=8+r.AV.length:=by unfold LO;simp only[AM,AH,AN]
theorem AC9{h:AD}(a:Bp h)(g:DR h=true):Agy h=some (GH h):=by
 have hlim:lim=268435456:=rfl;have j:=J0 g;have X:=CT j.1;have E:=a.CS;have G:=a.EG;have O:=a.todo;have H:=a.F4;have B:∀v:List Int,v.length<=5000000->A9V h v=some (v++[(h.BC.length:Int)]++h.BC++h.A8.flatMap (fun x=>[w64 (x+1)])):=by
  intro v J;unfold A9V;rw[B9 (by rw[Kc];omega),B9 (by rw[AM,By];omega)];refine O5 (l:=h.A8) (fun x=>[w64 (x+1)]) some H 1 (fun _=>Af _) ?_ ?_
  .grind[BAm,BH,A7,AB,B9]
  .intro L q;unfold BAm BCU;dsimp only;rw[Cp,BN,AR]
 have y:∀v:List Int,v.length<=3000000->A9U h v=some ((v++h.AI.flatMap (fun c=>[c.AV.DT]))++[(h.BC.length:Int)]++h.BC++h.A8.flatMap (fun x=>[w64 (x+1)])):=by
  intro v J;have I:=FY (fun c:AY=>[c.AV.DT]) (m:=1) (fun _=>Af _) h.AI;unfold A9U;rw[O5 (l:=h.AI) (fun c=>[c.AV.DT]) (A9V h) G 1 (fun _=>Af _) ?_ ?_,B _ (by rw[AM];omega)]
  .grind[BAl,BH,A7,AB,B9]
  .intro L q;unfold BAl;dsimp only;rw[Cp,BN,AR]
 have I:=FY Ma (m:=10) (fun _=>Af _) h.AG;have S:=NF h.AO;have Y:=a.Dd;unfold Agy;rw[GW a,AB,g,BI,BH,zN a.Dd j.1,AB,B9 (by rw[By];omega),B9 (by simp only[AM,By,AH,AN];omega)];rw[O5 (l:=h.AG) Ma (A9U h) E 10 (fun _=>Af _) ?_ ?_,y _ (by simp only[AM,By,AH,AN];omega)]
 .rfl
 .intro L i hi q e;simp only[AM,By,AH,AN]at e;unfold BAk;dsimp only;rw[CC hi,BH,A7 hi,AB,B9 (by simp only[AH,AN];omega)];rfl
 grind[BAk,BN,AR]
theorem AVJ{h:AD}(a:Bp h)(g:DR h=true):AQY h=some (GH h):=by
 have hlim:lim=268435456:=rfl;have j:=J0 g;have X:=CT j.1;have E:=a.CS;have G:=a.EG;have O:=a.todo;have H:=a.F4;have B:∀v:List Int,v.length<=5000000->A9O h v=some (v++[(h.BC.length:Int)]++h.BC++h.A8.flatMap (fun x=>[w64 (x+1)])):=by
  intro v J;unfold A9O;rw[B9 (by rw[Kc];omega),B9 (by rw[AM,By];omega)];refine O5 (l:=h.A8) (fun x=>[w64 (x+1)]) some H 1 (fun _=>Af _) ?_ ?_
  .grind[BAb,BH,A7,AB,B9]
  .intro L q;unfold BAb BCP;dsimp only;rw[Cp,BN,AR]
 have y:∀v:List Int,v.length<=3000000->A9N h v=some ((v++h.AI.flatMap (fun c=>[c.AV.DT]))++[(h.BC.length:Int)]++h.BC++h.A8.flatMap (fun x=>[w64 (x+1)])):=by
  intro v J;have I:=FY (fun c:AY=>[c.AV.DT]) (m:=1) (fun _=>Af _) h.AI;unfold A9N;rw[O5 (l:=h.AI) (fun c=>[c.AV.DT]) (A9O h) G 1 (fun _=>Af _) ?_ ?_,B _ (by rw[AM];omega)]
  .grind[BAa,BH,A7,AB,B9]
  .intro L q;unfold BAa;dsimp only;rw[Cp,BN,AR]
 have I:=FY Ma (m:=10) (fun _=>Af _) h.AG;have S:=NF h.AO;have Y:=a.Dd;unfold AQY;rw[Fe a,AB,g,BI,BH,ZP a.Dd j.1,AB,B9 (by rw[By];omega),B9 (by simp only[AM,By,AH,AN];omega)];rw[O5 (l:=h.AG) Ma (A9N h) E 10 (fun _=>Af _) ?_ ?_,y _ (by simp only[AM,By,AH,AN];omega)]
 .rfl
 .intro L i hi q e;simp only[AM,By,AH,AN]at e;unfold BAZ;dsimp only;rw[CC hi,BH,A7 hi,AB,B9 (by simp only[AH,AN];omega)];rfl
 grind[BAZ,BN,AR]
theorem AOZ{h:AD}(a:Bp h)(g:DR h=true):AQW h=some (GH h):=by
 have hlim:lim=268435456:=rfl;have j:=J0 g;have X:=CT j.1;have E:=a.CS;have G:=a.EG;have O:=a.todo;have H:=a.F4;have B:∀v:List Int,v.length<=5000000->A9M h v=some (v++[(h.BC.length:Int)]++h.BC++h.A8.flatMap (fun x=>[w64 (x+1)])):=by
  intro v J;unfold A9M;rw[B9 (by rw[Kc];omega),B9 (by rw[AM,By];omega)];refine O5 (l:=h.A8) (fun x=>[w64 (x+1)]) some H 1 (fun _=>Af _) ?_ ?_
  .grind[BAV,BH,A7,AB,B9]
  .intro L q;unfold BAV BCL;dsimp only;rw[Cp,BN,AR]
 have y:∀v:List Int,v.length<=3000000->Avf h v=some ((v++h.AI.flatMap (fun c=>[c.AV.DT]))++[(h.BC.length:Int)]++h.BC++h.A8.flatMap (fun x=>[w64 (x+1)])):=by
  intro v J;have I:=FY (fun c:AY=>[c.AV.DT]) (m:=1) (fun _=>Af _) h.AI;unfold Avf;rw[O5 (l:=h.AI) (fun c=>[c.AV.DT]) (A9M h) G 1 (fun _=>Af _) ?_ ?_,B _ (by rw[AM];omega)]
  .grind[BAU,BH,A7,AB,B9]
  .intro L q;unfold BAU;dsimp only;rw[Cp,BN,AR]
 have I:=FY Ma (m:=10) (fun _=>Af _) h.AG;have S:=NF h.AO;have Y:=a.Dd;unfold AQW;rw[Fe a,AB,g,BI,BH,ZP a.Dd j.1,AB,B9 (by rw[By];omega),B9 (by simp only[AM,By,AH,AN];omega)];rw[O5 (l:=h.AG) Ma (Avf h) E 10 (fun _=>Af _) ?_ ?_,y _ (by simp only[AM,By,AH,AN];omega)]
 .rfl
 .intro L i hi q e;simp only[AM,By,AH,AN]at e;unfold Avg;dsimp only;rw[CC hi,BH,A7 hi,AB,B9 (by simp only[AH,AN];omega)];rfl
 grind[Avg,BN,AR]
def IS(h:AD)(q:Int):List UInt8:=if DR h=true/\inB q 0 1000000=true then four ((LI (pL (q::GH h)):Nat):Int)++pL (q::GH h) else []
theorem jG:∀l:List Int,(pL l).length<=5*l.length
 | []=>by simp[pL]|x::l=>by
  have:=jG l;have:=TI x;unfold pL at *;rw[Cn,AM,AH];omega
theorem NQ{h:AD}(c:Bp h)(q:Int):AHn h q=some (IS h q):=by
 have hlim:lim=268435456:=rfl;have hslim:On=4611686018427387904:=rfl;unfold AHn IS;rw[GW c,AB,BI,AR,Gv,AB,AR];by_cases a:DR h=true
 .have j:=aa c a;have e:=jG (q::GH h);rw[AH]at e;rw[a,BH];unfold BAq;rw[BI,AC9 c a,AB,B9 (by rw[By];omega),List.singleton_append,jj (by rw[AH];omega),AB,AMo (by omega),AB];unfold nC;rw[AB];cases y:inB q 0 1000000 with
  |false=>rfl|true=>
   rw[BH,B9 (by simp only[AH,AN];omega),if_pos ⟨rfl,rfl⟩];rfl
 .rw[if_neg (fun g=>a g.1)];rw[Er]at a;rw[a,BN];rfl
theorem TB{h:AD}(c:Bp h)(q:Int):AYA h q=some (IS h q):=by
 have hslim:On=4611686018427387904:=rfl;unfold AYA IS orE;by_cases a:DR h=true
 .have H:=aa c a;have B:=jG (q::GH h);rw[AH]at B;have G:=TI q;have E:=jG (GH h);have y:(GH h).isEmpty=false:=by
   unfold GH;simp
  have j:pN q++pL (GH h)=pL (q::GH h):=rfl;have e:rG h q=some (if inB q 0 1000000=true then four ((LI (pL (q::GH h)):Nat):Int)++pL (q::GH h) else []):=by
   unfold rG;rw[AOZ c a,AB,B9 y,Fs,AB,BI];cases I:inB q 0 1000000 with
   |false=>rfl|true=>
    rw[BH,LJ,AB,iq (by omega),AB,B9 (by omega),j,ALh (by omega),AB,B9 (by simp only[AH,AN];omega)];rfl
  grind
 .rw[if_neg (fun g=>a g.1)];rw[Er]at a;have e:rG h q=none:=by
   unfold rG AQW;rw[Fe c,AB,a,BI,BN,AdJ]
  rw[e];dsimp only;unfold Agw Agv;rw[Fe c,AB,a,BI,BN,AB]
inductive Hi{α:Type}(Q:Int->α->Int->Prop):Int->List α->Int->Prop|nil(k:Int):Hi Q k [] k|cons {k k1 k2:Int} {x:α} {l:List α} (h:Q k x k1) (t:Hi Q k1 l k2):Hi Q k (x::l) k2
section
variable{α:Type}{Q:Int->α->Int->Prop}
end
theorem Acv{t:List Int}{n:Nat}(e:n<=4)(h:Jw t n=true):t.length<=4:=by
 unfold Jw at h;rw[KD]at h;refine Classical.byContradiction fun a=>?_
 have key:∀i (hi:i<t.length),0<=t[i]/\t[i]<n/\∀j (c:j<i),t[j]'(by omega)≠t[i]:=by
  grind[WH,Cc,CY,Ai,List.mem_take_iff_getElem]
 have g:=key 0 (by omega);have q:=key 1 (by omega);have y:=key 2 (by omega);have B:=key 3 (by omega);have E:=key 4 (by omega)
 grind
theorem AVT{h:AD}:(AaU h).length<=500:=by
 unfold AaU;split
 .rename_i e;have a:=J0 e;have B:=CT a.1;have g:=FY Ma (m:=10) (fun _=>Af _) h.AG;have j:=FY (fun c:AY=>[c.AV.DT]) (m:=1) (fun _=>Af _) h.AI;have q:=FY (fun x:Int=>[w64 (x+1)]) (m:=1) (fun _=>Af _) h.A8;have y:=Acv (t:=h.BC) (n:=h.AI.length) (by omega) a.2.2.2.2.2.2.1;unfold GH LO;simp only[AM,AH,AN];omega
 .simp
def M0(n:Int):A9×Bool:=if Eh ⟨n,0,0,n,0⟩=true then (⟨n,0,0,n,0⟩,true) else (⟨0,0,0,0,0⟩,false)
def Gq(n:Int):AY×Bool:=if (M0 n).2=true then (⟨(M0 n).1,[],⟨List.replicate 9 []⟩⟩,true) else (⟨⟨0,0,0,0,0⟩,[],⟨[]⟩⟩,false)
def EB(r:AZ):AD×Bool:=
 if Dp r=true then (⟨r,0,1,[],r.AV.map (fun n=>(Gq n).1),[],List.replicate r.Cs.toNat (-1)⟩,true) else (⟨⟨[],0,0,0,0,0,0,0,0⟩,0,0,[],[],[],[]⟩,false)
theorem Vu:AHt=some ⟨List.replicate 9 []⟩:=by
 unfold AHt;refine(C6 (n:=9) (fun i (v:An)=>((i:Int),v)) (fun i v=>v.Ak=List.replicate i []) (fun _ _=>some (⟨List.replicate 9 []⟩:An)) (by omega) ?_ (v:=⟨[]⟩) rfl);rintro L i ⟨s⟩ a hi c
 grind[rU,AHu,BA,B9,lim,BU,List.replicate_succ',AR]
theorem yY:WX=some ⟨List.replicate 9 []⟩:=rfl
theorem ACe{r:AZ}(a:r.AV.length<=1048576):AA0 r=some r:=by
 unfold AA0;rw[B9 (by unfold lim;omega),List.nil_append]
theorem ACd{r:AZ}(a:r.AV.length<=1048576):AA1 r=some r:=by
 unfold AA1 AYF;rw[B9 (by unfold lim;omega),AB]
theorem AL2(n:Int):rT n=some (M0 n):=by
 unfold rT M0;rw[TJ,AB,BI,BZ];split<;>rfl
theorem AOn(n:Int):rV n=some (Gq n):=by
 grind[rV,Gq,AL2,AB,Vu,BZ]
theorem yX{r:AZ}(q:r.AV.length<=1048576):nD r=some (EB r):=by
 unfold nD EB;rw[HS (by omega),AB,BI,ACe q,AB,BZ];by_cases a:Dp r=true
 .have B:=CT a;rw[if_pos a,if_pos a];refine C6 (n:=r.AV.length) (fun i (v:AD)=>((i:Int),v)) (fun i v=>v=⟨r,0,1,[],(r.AV.take i).map (fun n=>(Gq n).1),[],[]⟩) (fun _ _=>_) (by omega) ?_ (v:=⟨r,0,1,[],[],[],[]⟩) (by simp);rintro L i v c hi g;unfold ra;dsimp only at g ⊢;rcases AT i r.AV.length with h|h
  .rw[CC h,BH,A7 h,AB,AOn,AB,B9 (by rw[c,Kc];simp;unfold lim;omega),BU h (by omega)];refine g _ ?_ h;have e:r.AV.take (i+1)=r.AV.take i++[r.AV[i]]:=by rw[List.take_add_one,List.getElem?_eq_getElem h];rfl
   rw[c,e,List.map_append];rfl
  .obtain rfl:i=r.AV.length:=by omega
   rw[Cp,BN,AR,c,List.take_length];unfold rY;obtain⟨n,E⟩:=Int.eq_ofNat_of_zero_le (show 0<=r.Cs by omega);refine C6 (n:=n) (fun i (v:AD)=>((i:Int),v)) (fun i v=>v=⟨r,0,1,[],r.AV.map (fun n=>(Gq n).1),[],List.replicate i (-1)⟩) (fun _ _=>_) (by omega) ?_ (v:=⟨r,0,1,[],r.AV.map (fun n=>(Gq n).1),[],[]⟩) rfl;rintro L j w G y g;unfold BCa AHw
   grind[BH,B9,lim,BU,List.replicate_succ',BN,AR]
 .rw[if_neg a,if_neg a]
theorem ADf(n:Int):DI (Gq n).1:=by
 unfold Gq;split
 .exact⟨by simp,by simp,by simp⟩
 .exact⟨by simp,by simp,by simp⟩
theorem Lq{r:AZ}(a:r.AV.length<=1048576):Bp (EB r).1:=by
 unfold EB;split
 .rename_i c;have e:=CT c;refine⟨a,by simp,by simpa using a,?_,by simp,?_⟩
  .grind[ADf]
  .simp;omega
 .exact⟨by simp,by simp,by simp,by simp,by simp,by simp⟩
def Ij:Ae:=⟨⟨⟨[],0,0,0,0,0,0,0,0⟩,0,0,[],[],[],[]⟩,⟨⟨[],0⟩,⟨[],0⟩,⟨[],0⟩⟩,0,[]⟩
def Ge(r:AZ):Ae×Bool:=
 if (EB r).2=true then (⟨(EB r).1,⟨⟨[],0⟩,⟨IS (EB r).1 0,((IS (EB r).1 0).length:Int)⟩,⟨[],0⟩⟩,0,[]⟩,true) else (Ij,false)
theorem J3(h:AD)(q:Int):(IS h q).length<=2600:=by
 unfold IS;split
 .rename_i c;have a:=AVT (h:=h);unfold AaU at a
  grind[jG,HM]
 .simp
theorem AL0{r:AZ}(a:r.AV.length<=1048576):AQi r=some (Ge r):=by
 unfold AQi Ge;rw[yX a,AB,BI,NQ (Lq a),AB,BZ];split<;>rfl
theorem bW{r:AZ}(a:r.AV.length<=1048576):CW (Ge r).1:=by
 have c:=J3 (EB r).1 0;unfold Ge;split
 .exact⟨Lq a,by simp,by dsimp only;omega,by simp,by simp⟩
 .exact⟨⟨by simp[Ij],by simp[Ij],by simp[Ij],by simp[Ij],by simp[Ij],by simp[Ij]⟩,by simp[Ij],by simp[Ij],by simp[Ij],by simp[Ij]⟩
end Lv.P
