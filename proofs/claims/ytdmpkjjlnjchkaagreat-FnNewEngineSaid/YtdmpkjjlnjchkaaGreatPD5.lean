/- Plain laws about what the program computes. -/
import Derived.Test.YtdmpkjjlnjchkaaGreatPB5
import Derived.Test.YtdmpkjjlnjchkaaGreatPC5
noncomputable section
set_option linter.unusedVariables false
set_option linter.unusedSimpArgs false
set_option linter.unusedSectionVars false
open Bool renaming not_eq_true->Er
open List renaming flatMap_cons->Cn,length_append->AM,length_cons->AH,length_nil->AN,length_singleton->By
open Nat renaming le_refl->Af,lt_or_ge->AT
namespace Lv.P
open Go (IntKind BinOp UnOp)
theorem O5{α β γ:Type}{l:List α}(f:α->List β)(J:List β->AA γ){F:(List β×Int->AA γ)->List β×Int->AA γ}(e:l.length<=1048576)(m:Nat)(g:∀x,(f x).length<=m){a:List β}
 (step:∀L i (h:i<l.length) v,v.length<=a.length+m*i->F L (v,(i:Int))=L (v++f l[i],w64 ((i:Int)+1))) (stop:∀L v,F L (v,(l.length:Int))=J v):A4 F big (a,0)=J (a++l.flatMap f):=by
 refine(C6 (n:=l.length) (fun i (v:List β)=>(v,(i:Int))) (fun i v=>v=a++(l.take i).flatMap f/\v.length<=a.length+m*i) (fun i v=>J (a++l.flatMap f)) (by omega) ?_ ⟨by simp,by simp⟩);rintro L i v ⟨j,c⟩ hi q;rcases AT i l.length with h|h
 .rw[step L i h v c,BU h (by omega)]
  grind[List.take_add_one]
 grind
theorem FY{α β:Type}(f:α->List β){m:Nat}(a:∀x,(f x).length<=m):∀l:List α,(l.flatMap f).length<=m*l.length
 | []=>by simp|x::l=>by
  have:=FY f a l;have:=a x;rw[Cn,AM,AH,Nat.mul_add];omega
def LO(r:AZ):List Int:=[r.CJ,r.Room,r.A2,r.CB,r.Bq,r.Rest,r.CL,r.Cs]++r.AV
def Ma(p:AK):List Int:=[p.Id,p.Aa,w64 (p.Bl+1),p.A2,p.Cj,p.Since,p.Ap,p.State,p.Cf,p.Cu]
def GH(h:AD):List Int:=
 (([((LO h.AO).length:Int)]++LO h.AO++[h.Now,h.Ap,(h.AG.length:Int)]++h.AG.flatMap Ma)++h.AI.flatMap (fun c=>[c.AV.DT]))++[(h.BC.length:Int)]++h.BC++h.A8.flatMap (fun x=>[w64 (x+1)])
def AaU(h:AD):List Int:=if DR h=true then GH h else []
theorem J0{h:AD}(a:DR h=true):Dp h.AO=true/\(0<=h.Now/\h.Now<=1000000)/\(1<=h.Ap/\h.Ap<=1000001)/\h.AG.length<=40/\h.AI.length=h.AO.AV.length/\L0 h=true/\Jw h.BC h.AI.length=true/\Nq h.A8 h.AI.length=true/\(h.A8.length:Int)=h.AO.Cs/\O7 h=true:=by
 grind[DR,CY]
theorem aa{h:AD}(e:Bp h)(a:DR h=true):(GH h).length<=2000000:=by
 have g:=J0 a;have E:=CT g.1;have j:=FY Ma (m:=10) (fun _=>Af _) h.AG;have q:=FY (fun c:AY=>[c.AV.DT]) (m:=1) (fun _=>Af _) h.AI;have y:=FY (fun x:Int=>[w64 (x+1)]) (m:=1) (fun _=>Af _) h.A8;have B:=e.todo;unfold GH LO;simp only[AM,AH,AN];omega
theorem zN{r:AZ}(c:r.AV.length<=1048576)(a:Dp r=true):A2V r=some (LO r):=by
 unfold A2V;rw[HS (by omega),AB,a,BI,BH,B9 (by simp only[AH,AN];unfold lim;omega)];rfl
theorem ZP{r:AZ}(c:r.AV.length<=1048576)(a:Dp r=true):AAv r=some (LO r):=by
 unfold AAv;rw[HO (by omega),AB,a,BI,BH,B9 (by simp only[AH,AN];unfold lim;omega)];rfl
theorem NF(r:AZ):(LO r).length=8+r.AV.length:=by unfold LO;simp only[AM,AH,AN]
theorem AC9{h:AD}(a:Bp h)(g:DR h=true):A1D h=some (GH h):=by
 have hlim:lim=268435456:=rfl;have j:=J0 g;have X:=CT j.1;have E:=a.CS;have G:=a.EG;have O:=a.todo;have H:=a.F4;have B:∀v:List Int,v.length<=5000000->A1g h v=some (v++[(h.BC.length:Int)]++h.BC++h.A8.flatMap (fun x=>[w64 (x+1)])):=by
  intro v J;unfold A1g;rw[B9 (by rw[Kc];omega),B9 (by rw[AM,By];omega)];refine O5 (l:=h.A8) (fun x=>[w64 (x+1)]) some H 1 (fun _=>Af _) ?_ ?_
  .grind[A1k,BH,A7,AB,B9]
  .intro L q;unfold A1k A1h;dsimp only;rw[Cp,BN,AR]
 have y:∀v:List Int,v.length<=3000000->A1f h v=some ((v++h.AI.flatMap (fun c=>[c.AV.DT]))++[(h.BC.length:Int)]++h.BC++h.A8.flatMap (fun x=>[w64 (x+1)])):=by
  intro v J;have I:=FY (fun c:AY=>[c.AV.DT]) (m:=1) (fun _=>Af _) h.AI;unfold A1f;rw[O5 (l:=h.AI) (fun c=>[c.AV.DT]) (A1g h) G 1 (fun _=>Af _) ?_ ?_,B _ (by rw[AM];omega)]
  .grind[A1j,BH,A7,AB,B9]
  .intro L q;unfold A1j;dsimp only;rw[Cp,BN,AR]
 have I:=FY Ma (m:=10) (fun _=>Af _) h.AG;have S:=NF h.AO;have Y:=a.Dd;unfold A1D;rw[GW a,AB,g,BI,BH,zN a.Dd j.1,AB,B9 (by rw[By];omega),B9 (by simp only[AM,By,AH,AN];omega)];rw[O5 (l:=h.AG) Ma (A1f h) E 10 (fun _=>Af _) ?_ ?_,y _ (by simp only[AM,By,AH,AN];omega)]
 .rfl
 .intro L i hi q e;simp only[AM,By,AH,AN]at e;unfold A1i;dsimp only;rw[CC hi,BH,A7 hi,AB,B9 (by simp only[AH,AN];omega)];rfl
 grind[A1i,BN,AR]
theorem AVJ{h:AD}(a:Bp h)(g:DR h=true):AX8 h=some (GH h):=by
 have hlim:lim=268435456:=rfl;have j:=J0 g;have X:=CT j.1;have E:=a.CS;have G:=a.EG;have O:=a.todo;have H:=a.F4;have B:∀v:List Int,v.length<=5000000->BJn h v=some (v++[(h.BC.length:Int)]++h.BC++h.A8.flatMap (fun x=>[w64 (x+1)])):=by
  intro v J;unfold BJn;rw[B9 (by rw[Kc];omega),B9 (by rw[AM,By];omega)];refine O5 (l:=h.A8) (fun x=>[w64 (x+1)]) some H 1 (fun _=>Af _) ?_ ?_
  .grind[BJz,BH,A7,AB,B9]
  .intro L q;unfold BJz BKb;dsimp only;rw[Cp,BN,AR]
 have y:∀v:List Int,v.length<=3000000->rD h v=some ((v++h.AI.flatMap (fun c=>[c.AV.DT]))++[(h.BC.length:Int)]++h.BC++h.A8.flatMap (fun x=>[w64 (x+1)])):=by
  intro v J;have I:=FY (fun c:AY=>[c.AV.DT]) (m:=1) (fun _=>Af _) h.AI;unfold rD;rw[O5 (l:=h.AI) (fun c=>[c.AV.DT]) (BJn h) G 1 (fun _=>Af _) ?_ ?_,B _ (by rw[AM];omega)]
  .grind[BJy,BH,A7,AB,B9]
  .intro L q;unfold BJy;dsimp only;rw[Cp,BN,AR]
 have I:=FY Ma (m:=10) (fun _=>Af _) h.AG;have S:=NF h.AO;have Y:=a.Dd;unfold AX8;rw[Fe a,AB,g,BI,BH,ZP a.Dd j.1,AB,B9 (by rw[By];omega),B9 (by simp only[AM,By,AH,AN];omega)];rw[O5 (l:=h.AG) Ma (rD h) E 10 (fun _=>Af _) ?_ ?_,y _ (by simp only[AM,By,AH,AN];omega)]
 .rfl
 .intro L i hi q e;simp only[AM,By,AH,AN]at e;unfold BJx;dsimp only;rw[CC hi,BH,A7 hi,AB,B9 (by simp only[AH,AN];omega)];rfl
 grind[BJx,BN,AR]
theorem AOZ{h:AD}(a:Bp h)(g:DR h=true):AQb h=some (GH h):=by
 have hlim:lim=268435456:=rfl;have j:=J0 g;have X:=CT j.1;have E:=a.CS;have G:=a.EG;have O:=a.todo;have H:=a.F4;have B:∀v:List Int,v.length<=5000000->BJo h v=some (v++[(h.BC.length:Int)]++h.BC++h.A8.flatMap (fun x=>[w64 (x+1)])):=by
  intro v J;unfold BJo;rw[B9 (by rw[Kc];omega),B9 (by rw[AM,By];omega)];refine O5 (l:=h.A8) (fun x=>[w64 (x+1)]) some H 1 (fun _=>Af _) ?_ ?_
  .grind[BJ2,BH,A7,AB,B9]
  .intro L q;unfold BJ2 BKc;dsimp only;rw[Cp,BN,AR]
 have y:∀v:List Int,v.length<=3000000->Aqn h v=some ((v++h.AI.flatMap (fun c=>[c.AV.DT]))++[(h.BC.length:Int)]++h.BC++h.A8.flatMap (fun x=>[w64 (x+1)])):=by
  intro v J;have I:=FY (fun c:AY=>[c.AV.DT]) (m:=1) (fun _=>Af _) h.AI;unfold Aqn;rw[O5 (l:=h.AI) (fun c=>[c.AV.DT]) (BJo h) G 1 (fun _=>Af _) ?_ ?_,B _ (by rw[AM];omega)]
  .grind[BJ1,BH,A7,AB,B9]
  .intro L q;unfold BJ1;dsimp only;rw[Cp,BN,AR]
 have I:=FY Ma (m:=10) (fun _=>Af _) h.AG;have S:=NF h.AO;have Y:=a.Dd;unfold AQb;rw[Fe a,AB,g,BI,BH,ZP a.Dd j.1,AB,B9 (by rw[By];omega),B9 (by simp only[AM,By,AH,AN];omega)];rw[O5 (l:=h.AG) Ma (Aqn h) E 10 (fun _=>Af _) ?_ ?_,y _ (by simp only[AM,By,AH,AN];omega)]
 .rfl
 .intro L i hi q e;simp only[AM,By,AH,AN]at e;unfold BJ0;dsimp only;rw[CC hi,BH,A7 hi,AB,B9 (by simp only[AH,AN];omega)];rfl
 grind[BJ0,BN,AR]
def IS(h:AD)(q:Int):List UInt8:=if DR h=true/\inB q 0 1000000=true then four ((LI (pL (q::GH h)):Nat):Int)++pL (q::GH h) else []
theorem jG:∀l:List Int,(pL l).length<=5*l.length
 | []=>by simp[pL]|x::l=>by
  have:=jG l;have:=TI x;unfold pL at *;rw[Cn,AM,AH];omega
theorem NQ{h:AD}(c:Bp h)(q:Int):A2v h q=some (IS h q):=by
 have hlim:lim=268435456:=rfl;have hslim:On=4611686018427387904:=rfl;unfold A2v IS;rw[GW c,AB,BI,AR,Gv,AB,AR];by_cases a:DR h=true
 .have j:=aa c a;have e:=jG (q::GH h);rw[AH]at e;rw[a,BH];unfold A04;rw[BI,AC9 c a,AB,B9 (by rw[By];omega),List.singleton_append,jj (by rw[AH];omega),AB,AMo (by omega),AB];unfold BIH;rw[AB];cases y:inB q 0 1000000 with
  |false=>rfl|true=>
   rw[BH,B9 (by simp only[AH,AN];omega),if_pos ⟨rfl,rfl⟩];rfl
 .rw[if_neg (fun g=>a g.1)];rw[Er]at a;rw[a,BN];rfl
theorem TB{h:AD}(c:Bp h)(q:Int):AHn h q=some (IS h q):=by
 have hslim:On=4611686018427387904:=rfl;unfold AHn IS orE;by_cases a:DR h=true
 .have H:=aa c a;have B:=jG (q::GH h);rw[AH]at B;have G:=TI q;have E:=jG (GH h);have y:(GH h).isEmpty=false:=by
   unfold GH;simp
  have j:pN q++pL (GH h)=pL (q::GH h):=rfl;have e:AQc h q=some (if inB q 0 1000000=true then four ((LI (pL (q::GH h)):Nat):Int)++pL (q::GH h) else []):=by
   unfold AQc;rw[AOZ c a,AB,B9 y,Fs,AB,BI];cases I:inB q 0 1000000 with
   |false=>rfl|true=>
    rw[BH,LJ,AB,iq (by omega),AB,B9 (by omega),j,ALh (by omega),AB,B9 (by simp only[AH,AN];omega)];rfl
  grind
 .rw[if_neg (fun g=>a g.1)];rw[Er]at a;have e:AQc h q=none:=by
   unfold AQc AQb;rw[Fe c,AB,a,BI,BN,AdJ]
  rw[e];dsimp only;unfold nC AAw;rw[Fe c,AB,a,BI,BN,AB]
inductive Hi{α:Type}(Q:Int->α->Int->Prop):Int->List α->Int->Prop|nil(k:Int):Hi Q k [] k|cons {k k1 k2:Int} {x:α} {l:List α} (h:Q k x k1) (t:Hi Q k1 l k2):Hi Q k (x::l) k2
section
variable{α:Type}{Q:Int->α->Int->Prop}
end
theorem Acv{t:List Int}{n:Nat}(e:n<=4)(h:Jw t n=true):t.length<=4:=by
 unfold Jw at h;rw[KD]at h;refine Classical.byContradiction fun a=>?_
 have key:∀i (hi:i<t.length),0<=t[i]/\t[i]<n/\∀j (c:j<i),t[j]'(by omega)≠t[i]:=by
  grind[WH,Cc,CY,Ai,List.mem_take_iff_getElem]
 have g:=key 0 (by omega);have q:=key 1 (by omega);have y:=key 2 (by omega);have B:=key 3 (by omega);have E:=key 4 (by omega)
 grind
theorem AVT{h:AD}:(AaU h).length<=500:=by
 unfold AaU;split
 .rename_i e;have a:=J0 e;have B:=CT a.1;have g:=FY Ma (m:=10) (fun _=>Af _) h.AG;have j:=FY (fun c:AY=>[c.AV.DT]) (m:=1) (fun _=>Af _) h.AI;have q:=FY (fun x:Int=>[w64 (x+1)]) (m:=1) (fun _=>Af _) h.A8;have y:=Acv (t:=h.BC) (n:=h.AI.length) (by omega) a.2.2.2.2.2.2.1;unfold GH LO;simp only[AM,AH,AN];omega
 .simp
def M0(n:Int):A9×Bool:=if Eh ⟨n,0,0,n,0⟩=true then (⟨n,0,0,n,0⟩,true) else (⟨0,0,0,0,0⟩,false)
def Gq(n:Int):AY×Bool:=if (M0 n).2=true then (⟨(M0 n).1,[],⟨List.replicate 9 []⟩⟩,true) else (⟨⟨0,0,0,0,0⟩,[],⟨[]⟩⟩,false)
def EB(r:AZ):AD×Bool:=
 if Dp r=true then (⟨r,0,1,[],r.AV.map (fun n=>(Gq n).1),[],List.replicate r.Cs.toNat (-1)⟩,true) else (⟨⟨[],0,0,0,0,0,0,0,0⟩,0,0,[],[],[],[]⟩,false)
theorem Vu:A2w=some ⟨List.replicate 9 []⟩:=by
 unfold A2w;refine(C6 (n:=9) (fun i (v:An)=>((i:Int),v)) (fun i v=>v.Ak=List.replicate i []) (fun _ _=>some (⟨List.replicate 9 []⟩:An)) (by omega) ?_ (v:=⟨[]⟩) rfl);rintro L i ⟨s⟩ a hi c
 grind[A1o,A1n,BA,B9,lim,BU,List.replicate_succ',AR]
theorem yY:AQX=some ⟨List.replicate 9 []⟩:=rfl
theorem ACe{r:AZ}(a:r.AV.length<=1048576):BGY r=some r:=by
 unfold BGY;rw[B9 (by unfold lim;omega),List.nil_append]
theorem ACd{r:AZ}(a:r.AV.length<=1048576):AHd r=some r:=by
 unfold AHd AQW;rw[B9 (by unfold lim;omega),AB]
theorem AL1(n:Int):AX9 n=some (M0 n):=by
 unfold AX9 M0;rw[GZ,AB,BI,BZ];split<;>rfl
theorem AOm(n:Int):rG n=some (Gq n):=by
 grind[rG,Gq,AL1,AB,yY,BZ]
theorem AOo{r:AZ}(q:r.AV.length<=1048576):Agv r=some (EB r):=by
 unfold Agv EB;rw[HO (by omega),AB,BI,ACd q,AB,BZ];by_cases a:Dp r=true
 .have B:=CT a;rw[if_pos a,if_pos a];refine C6 (n:=r.AV.length) (fun i (v:AD)=>((i:Int),v)) (fun i v=>v=⟨r,0,1,[],(r.AV.take i).map (fun n=>(Gq n).1),[],[]⟩) (fun _ _=>_) (by omega) ?_ (v:=⟨r,0,1,[],[],[],[]⟩) (by simp);rintro L i v c hi g;unfold BEy;dsimp only at g ⊢;rcases AT i r.AV.length with h|h
  .rw[CC h,BH,A7 h,AB,AOm,AB,B9 (by rw[c,Kc];simp;unfold lim;omega),BU h (by omega)];refine g _ ?_ h;have e:r.AV.take (i+1)=r.AV.take i++[r.AV[i]]:=by rw[List.take_add_one,List.getElem?_eq_getElem h];rfl
   rw[c,e,List.map_append];rfl
  .obtain rfl:i=r.AV.length:=by omega
   rw[Cp,BN,AR,c,List.take_length];unfold BEv;obtain⟨n,E⟩:=Int.eq_ofNat_of_zero_le (show 0<=r.Cs by omega);refine C6 (n:=n) (fun i (v:AD)=>((i:Int),v)) (fun i v=>v=⟨r,0,1,[],r.AV.map (fun n=>(Gq n).1),[],List.replicate i (-1)⟩) (fun _ _=>_) (by omega) ?_ (v:=⟨r,0,1,[],r.AV.map (fun n=>(Gq n).1),[],[]⟩) rfl;rintro L j w G y g;unfold BEz BEw
   grind[BH,B9,lim,BU,List.replicate_succ',BN,AR]
 .rw[if_neg a,if_neg a]
theorem ADf(n:Int):DI (Gq n).1:=by
 unfold Gq;split
 .exact⟨by simp,by simp,by simp⟩
 .exact⟨by simp,by simp,by simp⟩
theorem Lq{r:AZ}(a:r.AV.length<=1048576):Bp (EB r).1:=by
 unfold EB;split
 .rename_i c;have e:=CT c;refine⟨a,by simp,by simpa using a,?_,by simp,?_⟩
  .grind[ADf]
  .simp;omega
 .exact⟨by simp,by simp,by simp,by simp,by simp,by simp⟩
def Ij:Ae:=⟨⟨⟨[],0,0,0,0,0,0,0,0⟩,0,0,[],[],[],[]⟩,⟨⟨[],0⟩,⟨[],0⟩,⟨[],0⟩⟩,0,[]⟩
def Ge(r:AZ):Ae×Bool:=
 if (EB r).2=true then (⟨(EB r).1,⟨⟨[],0⟩,⟨IS (EB r).1 0,((IS (EB r).1 0).length:Int)⟩,⟨[],0⟩⟩,0,[]⟩,true) else (Ij,false)
theorem J3(h:AD)(q:Int):(IS h q).length<=2600:=by
 unfold IS;split
 .rename_i c;have a:=AVT (h:=h);unfold AaU at a
  grind[jG,HM]
 .simp
theorem ALz{r:AZ}(a:r.AV.length<=1048576):AYA r=some (Ge r):=by
 have e:=J3 (EB r).1 0;have c:Gn ⟨IS (EB r).1 0,0⟩=true:=by
  grind[Gn,CY]
 unfold AYA Ge Agw;rw[AOo a,AB,BI,TB (Lq a),AB,GY,AB,c,BI,BH,AB,BZ];split<;>rfl
theorem bW{r:AZ}(a:r.AV.length<=1048576):CW (Ge r).1:=by
 have c:=J3 (EB r).1 0;unfold Ge;split
 .exact⟨Lq a,by simp,by dsimp only;omega,by simp,by simp⟩
 .exact⟨⟨by simp[Ij],by simp[Ij],by simp[Ij],by simp[Ij],by simp[Ij],by simp[Ij]⟩,by simp[Ij],by simp[Ij],by simp[Ij],by simp[Ij]⟩
end Lv.P
