/- Plain laws about what the program computes. -/
import Derived.Test.YtdmpkjjlnjchkaaGreatPB1
import Derived.Test.YtdmpkjjlnjchkaaGreatPC1
set_option linter.unusedVariables false
set_option linter.unusedSimpArgs false
set_option linter.unusedSectionVars false
open Bool renaming not_eq_true->Er
open List renaming flatMap_cons->Cn,length_append->AM,length_cons->AH,length_nil->AN,length_singleton->By
open Nat renaming le_refl->Af
namespace Lv.P
open Go (IntKind BinOp UnOp)
theorem O5{α β γ:Type}{l:List α}(f:α->List β)(J:List β->AA γ){F:(List β×Int->AA γ)->List β×Int->AA γ}(e:l.length<=1048576)(m:Nat)(g:∀x,(f x).length<=m){a:List β}
 (step:∀L i (h:i<l.length) v,v.length<=a.length+m*i->F L (v,(i:Int))=L (v++f l[i],w64 ((i:Int)+1))) (stop:∀L v,F L (v,(l.length:Int))=J v):A4 F big (a,0)=J (a++l.flatMap f):=by
 refine(C6 (n:=l.length) (fun i (v:List β)=>(v,(i:Int))) (fun i v=>v=a++(l.take i).flatMap f/\v.length<=a.length+m*i) (fun i v=>J (a++l.flatMap f)) (by omega) ?_ ⟨by simp,by simp⟩);rintro L i v ⟨j,c⟩ hi q;rcases Nat.lt_or_ge i l.length with h|h
 .rw[step L i h v c,BU h (by omega)]
  grind[List.take_add_one]
 grind
theorem FY{α β:Type}(f:α->List β){m:Nat}(a:∀x,(f x).length<=m):∀l:List α,(l.flatMap f).length<=m*l.length
 | []=>by simp|x::l=>by
  have:=FY f a l;have:=a x;rw[Cn,AM,AH,Nat.mul_add];omega
def LO(r:AZ):List Int:=[r.CJ,r.Room,r.A2,r.CB,r.Bq,r.Rest,r.CL,r.Cs]++r.AV
def Ma(p:AK):List Int:=[p.Id,p.Aa,w64 (p.Bl+1),p.A2,p.Cj,p.Since,p.Ap,p.State,p.Cf,p.Cu]
def GH(h:AD):List Int:=
 (([((LO h.AO).length:Int)]++LO h.AO++[h.Now,h.Ap,(h.AG.length:Int)]++h.AG.flatMap Ma)++h.AI.flatMap (fun c=>[c.AV.DT]))++[(h.BC.length:Int)]++h.BC++h.A8.flatMap (fun x=>[w64 (x+1)])
noncomputable def AaU(h:AD):List Int:=if DR h=true then GH h else []
theorem J0{h:AD}(a:DR h=true):Dp h.AO=true/\(0<=h.Now/\h.Now<=1000000)/\(1<=h.Ap/\h.Ap<=1000001)/\h.AG.length<=40/\h.AI.length=h.AO.AV.length/\L0 h=true/\Jw h.BC h.AI.length=true/\Nq h.A8 h.AI.length=true/\(h.A8.length:Int)=h.AO.Cs/\O7 h=true:=by
 grind[DR,CY]
theorem aa{h:AD}(e:Bp h)(a:DR h=true):(GH h).length<=2000000:=by
 have g:=J0 a;have E:=CT g.1;have j:=FY Ma (m:=10) (fun _=>Af _) h.AG;have q:=FY (fun c:AY=>[c.AV.DT]) (m:=1) (fun _=>Af _) h.AI;have y:=FY (fun x:Int=>[w64 (x+1)]) (m:=1) (fun _=>Af _) h.A8;have B:=e.todo;unfold GH LO;simp only[AM,AH,AN];omega
theorem zN{r:AZ}(c:r.AV.length<=1048576)(a:Dp r=true):AQf r=some (LO r):=by
 unfold AQf;rw[HS (by omega),AB,a,BI,BH,B9 (by simp only[AH,AN];unfold lim;omega)];rfl
theorem ZP{r:AZ}(c:r.AV.length<=1048576)(a:Dp r=true):AIQ r=some (LO r):=by
 unfold AIQ;rw[HO (by omega),AB,a,BI,BH,B9 (by simp only[AH,AN];unfold lim;omega)];rfl
theorem NF(r:AZ):(LO r).length=8+r.AV.length:=by unfold LO;simp only[AM,AH,AN]
theorem AC9{h:AD}(a:Bp h)(g:DR h=true):AQg h=some (GH h):=by
 have hlim:lim=268435456:=rfl;have j:=J0 g;have X:=CT j.1;have E:=a.CS;have G:=a.EG;have O:=a.todo;have H:=a.F4;have B:∀v:List Int,v.length<=5000000->Aih h v=some (v++[(h.BC.length:Int)]++h.BC++h.A8.flatMap (fun x=>[w64 (x+1)])):=by
  intro v J;unfold Aih;rw[B9 (by rw[Kc];omega),B9 (by rw[AM,By];omega)];refine O5 (l:=h.A8) (fun x=>[w64 (x+1)]) some H 1 (fun _=>Af _) ?_ ?_
  .grind[Ajb,BH,A7,AB,B9]
  .intro L q;unfold Ajb Aly;dsimp only;rw[Cp,BN,AR]
 have y:∀v:List Int,v.length<=3000000->Aig h v=some ((v++h.AI.flatMap (fun c=>[c.AV.DT]))++[(h.BC.length:Int)]++h.BC++h.A8.flatMap (fun x=>[w64 (x+1)])):=by
  intro v J;have I:=FY (fun c:AY=>[c.AV.DT]) (m:=1) (fun _=>Af _) h.AI;unfold Aig;rw[O5 (l:=h.AI) (fun c=>[c.AV.DT]) (Aih h) G 1 (fun _=>Af _) ?_ ?_,B _ (by rw[AM];omega)]
  .grind[Aja,BH,A7,AB,B9]
  .intro L q;unfold Aja;dsimp only;rw[Cp,BN,AR]
 have I:=FY Ma (m:=10) (fun _=>Af _) h.AG;have S:=NF h.AO;have Y:=a.Dd;unfold AQg;rw[GW a,AB,g,BI,BH,zN a.Dd j.1,AB,B9 (by rw[By];omega),B9 (by simp only[AM,By,AH,AN];omega)];rw[O5 (l:=h.AG) Ma (Aig h) E 10 (fun _=>Af _) ?_ ?_,y _ (by simp only[AM,By,AH,AN];omega)]
 .rfl
 .intro L i hi q e;simp only[AM,By,AH,AN]at e;unfold AjZ;dsimp only;rw[CC hi,BH,A7 hi,AB,B9 (by simp only[AH,AN];omega)];rfl
 grind[AjZ,BN,AR]
theorem AVJ{h:AD}(a:Bp h)(g:DR h=true):AQ0 h=some (GH h):=by
 have hlim:lim=268435456:=rfl;have j:=J0 g;have X:=CT j.1;have E:=a.CS;have G:=a.EG;have O:=a.todo;have H:=a.F4;have B:∀v:List Int,v.length<=5000000->Ain h v=some (v++[(h.BC.length:Int)]++h.BC++h.A8.flatMap (fun x=>[w64 (x+1)])):=by
  intro v J;unfold Ain;rw[B9 (by rw[Kc];omega),B9 (by rw[AM,By];omega)];refine O5 (l:=h.A8) (fun x=>[w64 (x+1)]) some H 1 (fun _=>Af _) ?_ ?_
  .grind[Ajq,BH,A7,AB,B9]
  .intro L q;unfold Ajq AmB;dsimp only;rw[Cp,BN,AR]
 have y:∀v:List Int,v.length<=3000000->Aim h v=some ((v++h.AI.flatMap (fun c=>[c.AV.DT]))++[(h.BC.length:Int)]++h.BC++h.A8.flatMap (fun x=>[w64 (x+1)])):=by
  intro v J;have I:=FY (fun c:AY=>[c.AV.DT]) (m:=1) (fun _=>Af _) h.AI;unfold Aim;rw[O5 (l:=h.AI) (fun c=>[c.AV.DT]) (Ain h) G 1 (fun _=>Af _) ?_ ?_,B _ (by rw[AM];omega)]
  .grind[Ajp,BH,A7,AB,B9]
  .intro L q;unfold Ajp;dsimp only;rw[Cp,BN,AR]
 have I:=FY Ma (m:=10) (fun _=>Af _) h.AG;have S:=NF h.AO;have Y:=a.Dd;unfold AQ0;rw[Fe a,AB,g,BI,BH,ZP a.Dd j.1,AB,B9 (by rw[By];omega),B9 (by simp only[AM,By,AH,AN];omega)];rw[O5 (l:=h.AG) Ma (Aim h) E 10 (fun _=>Af _) ?_ ?_,y _ (by simp only[AM,By,AH,AN];omega)]
 .rfl
 .intro L i hi q e;simp only[AM,By,AH,AN]at e;unfold Ajo;dsimp only;rw[CC hi,BH,A7 hi,AB,B9 (by simp only[AH,AN];omega)];rfl
 grind[Ajo,BN,AR]
theorem AOZ{h:AD}(a:Bp h)(g:DR h=true):AA5 h=some (GH h):=by
 have hlim:lim=268435456:=rfl;have j:=J0 g;have X:=CT j.1;have E:=a.CS;have G:=a.EG;have O:=a.todo;have H:=a.F4;have B:∀v:List Int,v.length<=5000000->Ail h v=some (v++[(h.BC.length:Int)]++h.BC++h.A8.flatMap (fun x=>[w64 (x+1)])):=by
  intro v J;unfold Ail;rw[B9 (by rw[Kc];omega),B9 (by rw[AM,By];omega)];refine O5 (l:=h.A8) (fun x=>[w64 (x+1)]) some H 1 (fun _=>Af _) ?_ ?_
  .grind[Ajl,BH,A7,AB,B9]
  .intro L q;unfold Ajl Al6;dsimp only;rw[Cp,BN,AR]
 have y:∀v:List Int,v.length<=3000000->Aik h v=some ((v++h.AI.flatMap (fun c=>[c.AV.DT]))++[(h.BC.length:Int)]++h.BC++h.A8.flatMap (fun x=>[w64 (x+1)])):=by
  intro v J;have I:=FY (fun c:AY=>[c.AV.DT]) (m:=1) (fun _=>Af _) h.AI;unfold Aik;rw[O5 (l:=h.AI) (fun c=>[c.AV.DT]) (Ail h) G 1 (fun _=>Af _) ?_ ?_,B _ (by rw[AM];omega)]
  .grind[Ajk,BH,A7,AB,B9]
  .intro L q;unfold Ajk;dsimp only;rw[Cp,BN,AR]
 have I:=FY Ma (m:=10) (fun _=>Af _) h.AG;have S:=NF h.AO;have Y:=a.Dd;unfold AA5;rw[Fe a,AB,g,BI,BH,ZP a.Dd j.1,AB,B9 (by rw[By];omega),B9 (by simp only[AM,By,AH,AN];omega)];rw[O5 (l:=h.AG) Ma (Aik h) E 10 (fun _=>Af _) ?_ ?_,y _ (by simp only[AM,By,AH,AN];omega)]
 .rfl
 .intro L i hi q e;simp only[AM,By,AH,AN]at e;unfold Ajj;dsimp only;rw[CC hi,BH,A7 hi,AB,B9 (by simp only[AH,AN];omega)];rfl
 grind[Ajj,BN,AR]
noncomputable def IS(h:AD)(q:Int):List UInt8:=if DR h=true/\inB q 0 1000000=true then four ((LI (pL (q::GH h)):Nat):Int)++pL (q::GH h) else []
theorem jG:∀l:List Int,(pL l).length<=5*l.length
 | []=>by simp[pL]|x::l=>by
  have:=jG l;have:=TI x;unfold pL at *;rw[Cn,AM,AH];omega
theorem NQ{h:AD}(c:Bp h)(q:Int):AIN h q=some (IS h q):=by
 have hlim:lim=268435456:=rfl;have hslim:On=4611686018427387904:=rfl;unfold AIN IS;rw[GW c,AB,BI,AR,Gv,AB,AR];by_cases a:DR h=true
 .have j:=aa c a;have e:=jG (q::GH h);rw[AH]at e;rw[a,BH];unfold Aji;rw[BI,AC9 c a,AB,B9 (by rw[By];omega),List.singleton_append,jj (by rw[AH];omega),AB,AMo (by omega),AB];unfold nF;rw[AB];cases y:inB q 0 1000000 with
  |false=>rfl|true=>
   rw[BH,B9 (by simp only[AH,AN];omega),if_pos ⟨rfl,rfl⟩];rfl
 .rw[if_neg (fun g=>a g.1)];rw[Er]at a;rw[a,BN];rfl
theorem TB{h:AD}(c:Bp h)(q:Int):AYG h q=some (IS h q):=by
 have hslim:On=4611686018427387904:=rfl;unfold AYG IS orE;by_cases a:DR h=true
 .have H:=aa c a;have B:=jG (q::GH h);rw[AH]at B;have G:=TI q;have E:=jG (GH h);have y:(GH h).isEmpty=false:=by
   unfold GH;simp
  have j:pN q++pL (GH h)=pL (q::GH h):=rfl;have e:AIV h q=some (if inB q 0 1000000=true then four ((LI (pL (q::GH h)):Nat):Int)++pL (q::GH h) else []):=by
   unfold AIV;rw[AOZ c a,AB,B9 y,Fs,AB,BI];cases I:inB q 0 1000000 with
   |false=>rfl|true=>
    rw[BH,LJ,AB,iq (by omega),AB,B9 (by omega),j,ALh (by omega),AB,B9 (by simp only[AH,AN];omega)];rfl
  grind
 .rw[if_neg (fun g=>a g.1)];rw[Er]at a;have e:AIV h q=none:=by
   unfold AIV AA5;rw[Fe c,AB,a,BI,BN,AdJ]
  rw[e];dsimp only;unfold AA7 AIX;rw[Fe c,AB,a,BI,BN,AB]
inductive Hi{α:Type}(Q:Int->α->Int->Prop):Int->List α->Int->Prop|nil(k:Int):Hi Q k [] k|cons {k k1 k2:Int} {x:α} {l:List α} (h:Q k x k1) (t:Hi Q k1 l k2):Hi Q k (x::l) k2
section
variable{α:Type}{Q:Int->α->Int->Prop}
end
theorem Acv{t:List Int}{n:Nat}(e:n<=4)(h:Jw t n=true):t.length<=4:=by
 unfold Jw at h;rw[KD]at h;refine Classical.byContradiction fun a=>?_
 have key:∀i (hi:i<t.length),0<=t[i]/\t[i]<n/\∀j (c:j<i),t[j]'(by omega)≠t[i]:=by
  grind[WH,Cc,CY,Ai,List.mem_take_iff_getElem]
 have g:=key 0 (by omega);have q:=key 1 (by omega);have y:=key 2 (by omega);have B:=key 3 (by omega);have E:=key 4 (by omega)
 grind
theorem AVT{h:AD}:(AaU h).length<=500:=by
 unfold AaU;split
 .rename_i e;have a:=J0 e;have B:=CT a.1;have g:=FY Ma (m:=10) (fun _=>Af _) h.AG;have j:=FY (fun c:AY=>[c.AV.DT]) (m:=1) (fun _=>Af _) h.AI;have q:=FY (fun x:Int=>[w64 (x+1)]) (m:=1) (fun _=>Af _) h.A8;have y:=Acv (t:=h.BC) (n:=h.AI.length) (by omega) a.2.2.2.2.2.2.1;unfold GH LO;simp only[AM,AH,AN];omega
 .simp
theorem Vu:AQ1=some ⟨List.replicate 9 []⟩:=by
 unfold AQ1;refine(C6 (n:=9) (fun i (v:An)=>((i:Int),v)) (fun i v=>v.Ak=List.replicate i []) (fun _ _=>some (⟨List.replicate 9 []⟩:An)) (by omega) ?_ (v:=⟨[]⟩) rfl);rintro L i ⟨s⟩ a hi c
 grind[sL,fW,BA,B9,lim,BU,List.replicate_succ',AR]
theorem yY:AQ2=some ⟨List.replicate 9 []⟩:=rfl
theorem ACe{r:AZ}(a:r.AV.length<=1048576):AA8 r=some r:=by
 unfold AA8;rw[B9 (by unfold lim;omega),List.nil_append]
theorem ACd{r:AZ}(a:r.AV.length<=1048576):AYN r=some r:=by
 unfold AYN sO;rw[B9 (by unfold lim;omega),AB]
theorem AUz{w:An}(a:C1 w):AQs w w=some true:=by
 unfold AQs;have:=a.1;rw[AU3 (by omega) fun x c=>by have:=ALv c;have:=a.2;omega,AB,BI,BH]
theorem AUx{c:AY}(a:DI c):AQt c c=some true:=by
 have:=a.1;unfold AQt;rw[ANb,AB,BI,BH,ANa (by omega),AB,BI,BH,AUz a.2,AB,BI,BH]
theorem ANY{l:List AY}(a:l.length<=1048576)(c:∀x∈l,DI x):AQd l l=some true:=by
 unfold AQd;refine iR (by omega) ?_ ?_
 .grind[rS,BH,A7,AB,AUx,BI]
 grind[rS,AHp,BN,AR]
theorem AUy{r:AZ}(a:r.AV.length<=1048576):AQj r r=some true:=by
 grind[AQj,Xe,AB,BI,BH]
theorem ACA{h:AD}(a:Bp h):AAx h h=some true:=by
 have c:=a.Dd;have g:=a.CS;have e:=a.EG;have j:=a.todo;have q:=a.F4;unfold AAx;rw[AUy c,AB,BI,BH,ne_self,BN,ne_self,BN,ANc (by omega),AB,BI,BH,ANY e a.De,AB,BI,BH,Xe (by omega),AB,BI,BH,Xe (by omega),AB,BI,BH]
theorem P3{e:Ae}(a:CW e):XA e e=some true:=by
 have:=a.laid;unfold XA;rw[ACA a.EL,AB,BI,BH,AU4,AB,BI,BH,ne_self,BN,ALR (by omega),AB,BI,BH]
theorem J3(h:AD)(q:Int):(IS h q).length<=2600:=by
 unfold IS;split
 .rename_i c;have a:=AVT (h:=h);unfold AaU at a
  grind[jG,HM]
 .simp
end Lv.P
