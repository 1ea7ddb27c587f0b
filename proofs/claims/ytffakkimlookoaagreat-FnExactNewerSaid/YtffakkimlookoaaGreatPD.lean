/-
  Plain laws: the numbers of a house, the text of a snapshot.
-/
import Derived.Test.YtffakkimlookoaaGreatPB
import Derived.Test.YtffakkimlookoaaGreatPC
set_option linter.unusedVariables false
set_option linter.unusedSimpArgs false
namespace Lv.P
open Go (IntKind BinOp UnOp)
theorem GQ{α β γ:Type}{l:List α}(f:α->List β)(J:List β->Option γ){F:(List β×Int->Option γ)->List β×Int->Option γ}(hl:l.length<=1048576)(m:Nat)(hm:∀x,(f x).length<=m){v0:List β}
 (step:∀L i (h:i<l.length) v,v.length<=v0.length+m*i->F L (v,(i:Int))=L (v++f l[i],w64 ((i:Int)+1))) (stop:∀L v,F L (v,(l.length:Int))=J v):AR F big (v0,0)=J (v0++l.flatMap f):=by
 refine(Bz (n:=l.length) (fun i (v:List β)=>(v,(i:Int))) (fun i v=>v=v0++(l.take i).flatMap f/\v.length<=v0.length+m*i) (fun i v=>J (v0++l.flatMap f)) (by omega) ?_ ⟨by simp,by simp⟩);rintro L i v ⟨hv,hb⟩ hi ih;rcases Nat.lt_or_ge i l.length with h|h
 .rw [step L i h v hb,Av h (by omega)];refine ih _ ⟨?_,?_⟩ h
  .rw [hv,List.take_add_one,List.getElem?_eq_getElem h,List.flatMap_append,List.append_assoc];simp
  .have:=hm l[i];rw [List.length_append,Nat.mul_add];omega
 .obtain rfl:i=l.length:=by omega
  rw [stop,hv,List.take_length]
theorem B2{α β:Type}(f:α->List β){m:Nat}(hm:∀x,(f x).length<=m):∀l:List α,(l.flatMap f).length<=m*l.length
 | []=>by simp
 |x::l=>by
  have:=B2 f hm l;have:=hm x;rw [List.flatMap_cons,List.length_append,List.length_cons,Nat.mul_add];omega
def FJ(r:AQ):List Int:=[r.A2,r.Room,r.Aq,r.Au,r.As,r.Rest,r.A3,r.BL]++r.AN
def GN(p:AG):List Int:=[p.Id,p.A4,w64 (p.CR+1),p.Aq,p.C9,p.Since,p.Ai,p.State,p.BV,p.Cs]
def DI(h:AH):List Int:=
 (([((FJ h.AI).length:Int)]++FJ h.AI++[h.Now,h.Ai,(h.AF.length:Int)]++h.AF.flatMap GN)++h.AW.flatMap (fun c=>[c.AN.Cd]))++[(h.BA.length:Int)]++h.BA++h.BO.flatMap (fun x=>[w64 (x+1)])
noncomputable def sI(h:AH):List Int:=if DH h=true then DI h else []
theorem Gg{h:AH}(hb:DH h=true):CP h.AI=true/\(0<=h.Now/\h.Now<=1000000)/\(1<=h.Ai/\h.Ai<=1000001)/\h.AF.length<=40/\h.AW.length=h.AI.AN.length/\HN h=true/\KY h.BA h.AW.length=true/\LH h.BO h.AW.length=true/\(h.BO.length:Int)=h.AI.BL/\Hj h=true:=by
 unfold DH at hb;simp only [Bool.and_eq_true,CL,Bool.not_eq_true',decide_eq_false_iff_not,beq_iff_eq] at hb;obtain⟨h1,h2,h3,h4,h5,h6,⟨h7,h8,h9⟩,h10⟩:=hb;exact⟨h1,h2,h3,by omega,by omega,h6,h7,h8,h9,h10⟩
theorem MT{h:AH}(hh:Ba h)(hb:DH h=true):(DI h).length<=2000000:=by
 have hk:=Gg hb;have hr:=BZ hk.1;have h1:=B2 GN (m:=10) (fun _=>Nat.le_refl _) h.AF;have h2:=B2 (fun c:AU=>[c.AN.Cd]) (m:=1) (fun _=>Nat.le_refl _) h.AW;have h3:=B2 (fun x:Int=>[w64 (x+1)]) (m:=1) (fun _=>Nat.le_refl _) h.BO;have h4:=hh.todo;unfold DI FJ;simp only [List.length_append,List.length_cons,List.length_nil];omega
theorem XD{r:AQ}(hr:r.AN.length<=1048576)(hb:CP r=true):lY r=some (FJ r):=by
 unfold lY;rw [FN (by omega),AA,hb,Ae,Af,BE (by simp only [List.length_cons,List.length_nil];unfold lim;omega)];rfl
theorem LG{r:AQ}(hr:r.AN.length<=1048576)(hb:CP r=true):X5 r=some (FJ r):=by
 unfold X5;rw [DV (by omega),AA,hb,Ae,Af,BE (by simp only [List.length_cons,List.length_nil];unfold lim;omega)];rfl
theorem I5(r:AQ):(FJ r).length=8+r.AN.length:=by unfold FJ;simp only [List.length_append,List.length_cons,List.length_nil]
theorem Yu{h:AH}(hh:Ba h)(hb:DH h=true):dE h=some (DI h):=by
 have hlim:lim=268435456:=rfl;have hk:=Gg hb;have hr:=BZ hk.1;have h1:=hh.EA;have h2:=hh.SS;have h3:=hh.todo;have h4:=hh.jT;have e4:∀v:List Int,v.length<=5000000->PJ h v=some (v++[(h.BA.length:Int)]++h.BA++h.BO.flatMap (fun x=>[w64 (x+1)])):=by
  intro v hv;unfold PJ;rw [BE (by rw [Er];omega),BE (by rw [List.length_append,List.length_singleton];omega)];refine GQ (l:=h.BO) (fun x=>[w64 (x+1)]) some h4 1 (fun _=>Nat.le_refl _) ?_ ?_
  .intro L i hi v' hv';simp only [List.length_append,List.length_singleton] at hv';unfold Tj;dsimp only;rw [AX hi,Af,Ac hi,AA,BE (by rw [Er];omega)]
  .intro L v';unfold Tj dF;dsimp only;rw [AY,Ag,AE]
 have e2:∀v:List Int,v.length<=3000000->PI h v=some ((v++h.AW.flatMap (fun c=>[c.AN.Cd]))++[(h.BA.length:Int)]++h.BA++h.BO.flatMap (fun x=>[w64 (x+1)])):=by
  intro v hv;have hc:=B2 (fun c:AU=>[c.AN.Cd]) (m:=1) (fun _=>Nat.le_refl _) h.AW;unfold PI;rw [GQ (l:=h.AW) (fun c=>[c.AN.Cd]) (PJ h) h2 1 (fun _=>Nat.le_refl _) ?_ ?_,e4 _ (by rw [List.length_append];omega)]
  .intro L i hi v' hv';unfold Ti;dsimp only;rw [AX hi,Af,Ac hi,AA,BE (by rw [Er];omega)]
  .intro L v';unfold Ti;dsimp only;rw [AY,Ag,AE]
 have hc:=B2 GN (m:=10) (fun _=>Nat.le_refl _) h.AF;have hn:=I5 h.AI;have hs:=hh.HV;unfold dE;rw [KL hh,AA,hb,Ae,Af,XD hh.HV hk.1,AA,BE (by rw [List.length_singleton];omega),BE (by simp only [List.length_append,List.length_singleton,List.length_cons,List.length_nil];omega)];rw [GQ (l:=h.AF) GN (PI h) h1 10 (fun _=>Nat.le_refl _) ?_ ?_,e2 _ (by simp only [List.length_append,List.length_singleton,List.length_cons,List.length_nil];omega)]
 .rfl
 .intro L i hi v' hv';simp only [List.length_append,List.length_singleton,List.length_cons,List.length_nil] at hv';unfold Th;dsimp only;rw [AX hi,Af,Ac hi,AA,BE (by simp only [List.length_cons,List.length_nil];omega)];rfl
 .intro L v';unfold Th;dsimp only;rw [AY,Ag,AE]
theorem oh{h:AH}(hh:Ba h)(hb:DH h=true):mN h=some (DI h):=by
 have hlim:lim=268435456:=rfl;have hk:=Gg hb;have hr:=BZ hk.1;have h1:=hh.EA;have h2:=hh.SS;have h3:=hh.todo;have h4:=hh.jT;have e4:∀v:List Int,v.length<=5000000->Pb h v=some (v++[(h.BA.length:Int)]++h.BA++h.BO.flatMap (fun x=>[w64 (x+1)])):=by
  intro v hv;unfold Pb;rw [BE (by rw [Er];omega),BE (by rw [List.length_append,List.length_singleton];omega)];refine GQ (l:=h.BO) (fun x=>[w64 (x+1)]) some h4 1 (fun _=>Nat.le_refl _) ?_ ?_
  .intro L i hi v' hv';simp only [List.length_append,List.length_singleton] at hv';unfold UT;dsimp only;rw [AX hi,Af,Ac hi,AA,BE (by rw [Er];omega)]
  .intro L v';unfold UT eK;dsimp only;rw [AY,Ag,AE]
 have e2:∀v:List Int,v.length<=3000000->PZ h v=some ((v++h.AW.flatMap (fun c=>[c.AN.Cd]))++[(h.BA.length:Int)]++h.BA++h.BO.flatMap (fun x=>[w64 (x+1)])):=by
  intro v hv;have hc:=B2 (fun c:AU=>[c.AN.Cd]) (m:=1) (fun _=>Nat.le_refl _) h.AW;unfold PZ;rw [GQ (l:=h.AW) (fun c=>[c.AN.Cd]) (Pb h) h2 1 (fun _=>Nat.le_refl _) ?_ ?_,e4 _ (by rw [List.length_append];omega)]
  .intro L i hi v' hv';unfold US;dsimp only;rw [AX hi,Af,Ac hi,AA,BE (by rw [Er];omega)]
  .intro L v';unfold US;dsimp only;rw [AY,Ag,AE]
 have hc:=B2 GN (m:=10) (fun _=>Nat.le_refl _) h.AF;have hn:=I5 h.AI;have hs:=hh.HV;unfold mN;rw [FA hh,AA,hb,Ae,Af,LG hh.HV hk.1,AA,BE (by rw [List.length_singleton];omega),BE (by simp only [List.length_append,List.length_singleton,List.length_cons,List.length_nil];omega)];rw [GQ (l:=h.AF) GN (PZ h) h1 10 (fun _=>Nat.le_refl _) ?_ ?_,e2 _ (by simp only [List.length_append,List.length_singleton,List.length_cons,List.length_nil];omega)]
 .rfl
 .intro L i hi v' hv';simp only [List.length_append,List.length_singleton,List.length_cons,List.length_nil] at hv';unfold UR;dsimp only;rw [AX hi,Af,Ac hi,AA,BE (by simp only [List.length_cons,List.length_nil];omega)];rfl
 .intro L v';unfold UR;dsimp only;rw [AY,Ag,AE]
theorem jS{h:AH}(hh:Ba h)(hb:DH h=true):eC h=some (DI h):=by
 have hlim:lim=268435456:=rfl;have hk:=Gg hb;have hr:=BZ hk.1;have h1:=hh.EA;have h2:=hh.SS;have h3:=hh.todo;have h4:=hh.jT;have e4:∀v:List Int,v.length<=5000000->PY h v=some (v++[(h.BA.length:Int)]++h.BA++h.BO.flatMap (fun x=>[w64 (x+1)])):=by
  intro v hv;unfold PY;rw [BE (by rw [Er];omega),BE (by rw [List.length_append,List.length_singleton];omega)];refine GQ (l:=h.BO) (fun x=>[w64 (x+1)]) some h4 1 (fun _=>Nat.le_refl _) ?_ ?_
  .intro L i hi v' hv';simp only [List.length_append,List.length_singleton] at hv';unfold UL;dsimp only;rw [AX hi,Af,Ac hi,AA,BE (by rw [Er];omega)]
  .intro L v';unfold UL eD;dsimp only;rw [AY,Ag,AE]
 have e2:∀v:List Int,v.length<=3000000->PX h v=some ((v++h.AW.flatMap (fun c=>[c.AN.Cd]))++[(h.BA.length:Int)]++h.BA++h.BO.flatMap (fun x=>[w64 (x+1)])):=by
  intro v hv;have hc:=B2 (fun c:AU=>[c.AN.Cd]) (m:=1) (fun _=>Nat.le_refl _) h.AW;unfold PX;rw [GQ (l:=h.AW) (fun c=>[c.AN.Cd]) (PY h) h2 1 (fun _=>Nat.le_refl _) ?_ ?_,e4 _ (by rw [List.length_append];omega)]
  .intro L i hi v' hv';unfold UK;dsimp only;rw [AX hi,Af,Ac hi,AA,BE (by rw [Er];omega)]
  .intro L v';unfold UK;dsimp only;rw [AY,Ag,AE]
 have hc:=B2 GN (m:=10) (fun _=>Nat.le_refl _) h.AF;have hn:=I5 h.AI;have hs:=hh.HV;unfold eC;rw [FA hh,AA,hb,Ae,Af,LG hh.HV hk.1,AA,BE (by rw [List.length_singleton];omega),BE (by simp only [List.length_append,List.length_singleton,List.length_cons,List.length_nil];omega)];rw [GQ (l:=h.AF) GN (PX h) h1 10 (fun _=>Nat.le_refl _) ?_ ?_,e2 _ (by simp only [List.length_append,List.length_singleton,List.length_cons,List.length_nil];omega)]
 .rfl
 .intro L i hi v' hv';simp only [List.length_append,List.length_singleton,List.length_cons,List.length_nil] at hv';unfold UJ;dsimp only;rw [AX hi,Af,Ac hi,AA,BE (by simp only [List.length_cons,List.length_nil];omega)];rfl
 .intro L v';unfold UJ;dsimp only;rw [AY,Ag,AE]
noncomputable def Ll(h:AH)(q:Int):List UInt8:=if DH h=true/\inB q 0 1000000=true then four ((cW (pL (q::DI h)):Nat):Int)++pL (q::DI h) else []
theorem QV:∀l:List Int,(pL l).length<=5*l.length
 | []=>by simp [pL]
 |x::l=>by
  have:=QV l;have:=kC x;unfold pL at *;rw [List.flatMap_cons,List.length_append,List.length_cons];omega
theorem Xd{h:AH}(hh:Ba h)(q:Int):lg h q=some (Ll h q):=by
 have hlim:lim=268435456:=rfl;have hslim:bS=4611686018427387904:=rfl;unfold lg Ll;rw [KL hh,AA,Ae,AE,FV,AA,AE];by_cases hb:DH h=true
 .have hn:=MT hh hb;have hp:=QV (q::DI h);rw [List.length_cons] at hp;rw [hb,Af];unfold To;rw [Ae,Yu hh hb,AA,BE (by rw [List.length_singleton];omega),List.singleton_append,bg (by rw [List.length_cons];omega),AA,s7 (by omega),AA];unfold qU;rw [AA];cases hq:inB q 0 1000000 with
  |false=>rfl
  |true=>
   rw [Af,BE (by simp only [List.length_cons,List.length_nil];omega),if_pos ⟨rfl,rfl⟩];rfl
 .rw [if_neg (fun g=>hb g.1)];rw [Bool.not_eq_true] at hb;rw [hb,Ag];rfl
theorem XV{h:AH}(hh:Ba h)(q:Int):mM h q=some (Ll h q):=by
 have hslim:bS=4611686018427387904:=rfl;unfold mM Ll orE;by_cases hb:DH h=true
 .have hn:=MT hh hb;have hp:=QV (q::DI h);rw [List.length_cons] at hp;have hpn:=kC q;have hpl:=QV (DI h);have he:(DI h).isEmpty=false:=by
   unfold DI;simp
  have hcc:pN q++pL (DI h)=pL (q::DI h):=rfl;have e:YA h q=some (if inB q 0 1000000=true then four ((cW (pL (q::DI h)):Nat):Int)++pL (q::DI h) else []):=by
   unfold YA;rw [jS hh hb,AA,BE he,Em,AA,Ae];cases hq:inB q 0 1000000 with
   |false=>rfl
   |true=>
    rw [Af,Hz,AA,aF (by omega),AA,BE (by omega),hcc,rh (by omega),AA,BE (by simp only [List.length_cons,List.length_nil];omega)];rfl
  rw [e];dsimp only;cases hq:inB q 0 1000000 <;> simp [hb]
 .rw [if_neg (fun g=>hb g.1)];rw [Bool.not_eq_true] at hb;have e:YA h q=none:=by
   unfold YA eC;rw [FA hh,AA,hb,Ae,Ag,tt]
  rw [e];dsimp only;unfold mL qY;rw [FA hh,AA,hb,Ae,Ag,AA]
end Lv.P
namespace Lv.P
open Go (IntKind BinOp UnOp)
inductive DJ{α:Type}(Q:Int->α->Int->Prop):Int->List α->Int->Prop
 |nil(k:Int):DJ Q k [] k
 |cons {k k1 k2:Int} {x:α} {l:List α} (h:Q k x k1) (t:DJ Q k1 l k2):DJ Q k (x::l) k2
section
variable{α:Type}{Q:Int->α->Int->Prop}
theorem DJ.snoc{k k1 k2:Int}{l:List α}{x:α}(h:DJ Q k l k1)(hq:Q k1 x k2):DJ Q k (l++[x]) k2:=by
 induction h with
 |nil k=>exact .cons hq (.nil _)
 |cons h t ih=>exact .cons h (ih hq)
theorem tC{l:List α}(cst:α->Nat){i:Nat}(h:i<l.length):((l.take (i+1)).map cst).sum=((l.take i).map cst).sum+cst l[i]:=by
 have e:l.take (i+1)=l.take i++[l[i]]:=by rw [List.take_add_one,List.getElem?_eq_getElem h];rfl
 rw [e,List.map_append,List.sum_append];simp
theorem xj{l:List α}(cst:α->Nat)(i:Nat):((l.take i).map cst).sum<=(l.map cst).sum:=by
 have:(l.map cst).sum=((l.take i).map cst).sum+((l.drop i).map cst).sum:=by rw [<-List.sum_append,<-List.map_append,List.take_append_drop]
 omega
theorem JA(c:Nat):∀l:List α,(l.map (fun _=>c)).sum=c*l.length
 | []=>by simp
 |x::l=>by rw [List.map_cons,List.sum_cons,JA c l,List.length_cons,Nat.mul_add];omega
theorem pW{l:List α}{cst:α->Nat}{m:Nat}(h:∀x∈l,cst x<=m):(l.map cst).sum<=m*l.length:=by
 induction l with
 |nil=>simp
 |cons x l ih=>
  have h1:=h x List.mem_cons_self;have h2:=ih fun y hy=>h y (List.mem_cons_of_mem _ hy)
  rw [List.map_cons,List.sum_cons,List.length_cons,Nat.mul_add];omega
theorem Is{l:List α}(cst:α->Nat)(M:Int){F:(List α×Int×Int->Option (Int×List α))->List α×Int×Int->Option (Int×List α)}(hl:l.length<=1048576){k0:Int}(h0:0<=k0)(hb:k0+((l.map cst).sum:Nat)<=M)
 (step:∀L (v:List α) (k:Int) (i:Nat) (h:i<l.length),v.length=l.length->v[i]?=some l[i]->0<=k->k+cst l[i]<=M ->
  ∃k1 x',F L (v,k,(i:Int))=L (v.set i x',k1,w64 ((i:Int)+1))/\Q k x' k1/\k<=k1/\k1<=k+cst l[i])
 (stop:∀L v k,v.length=l.length->F L (v,k,(l.length:Int))=some (k,v)) :
 ∃r,AR F big (l,k0,0)=some r/\(DJ Q k0 r.2 r.1/\r.2.length=l.length/\k0<=r.1/\r.1<=k0+((l.map cst).sum:Nat)):=by
 refine YP (n:=l.length) (fun i (v:List α×Int)=>(v.1,v.2,(i:Int))) (fun i v=>v.1.length=l.length/\v.1.drop i=l.drop i/\DJ Q k0 (v.1.take i) v.2/\k0<=v.2/\v.2<=k0+(((l.take i).map cst).sum:Nat)) _ (by omega) ?_ (v:=(l,k0)) ⟨rfl,rfl,by simpa using DJ.nil k0,Int.le_refl _,by simp⟩;rintro L i ⟨v,k⟩ ⟨h1,h2,h3,h4,h5⟩ hi ih;dsimp only at h1 h2 h3 h4 h5 ih ⊢;rcases Nat.lt_or_ge i l.length with h|h
 .have hv:i<v.length:=by omega
  have e:v[i]=l[i]:=by
   have:=h2;rw [CH h,CH hv] at this;exact(List.cons.injEq ..▸this:_/\_).1
  have hs:=tC cst h;have hs2:=xj (l:=l) cst (i+1);obtain⟨k1,x',g1,g2,g3,g4⟩:=step L v k i h h1 (by rw [List.getElem?_eq_getElem hv,e]) (by omega) (by omega);rw [g1,Av h (by omega)];refine ih (v.set i x',k1) ⟨by simp [h1],?_,?_,by dsimp only;omega,by dsimp only;omega⟩ h
  .dsimp only;rw [List.drop_set_of_lt (by omega)];have:=congrArg (List.drop 1) h2;simpa [List.drop_drop,Nat.add_comm] using this
  .dsimp only;have:(v.set i x').take (i+1)=v.take i++[x']:=by
    rw [List.take_add_one,List.take_set_of_le (by omega)];simp [hv]
   rw [this];exact h3.snoc g2
 .obtain rfl:i=l.length:=by omega
  rw [stop L v k h1];rw [List.take_of_length_le (by omega)] at h3;rw [List.take_length] at h5;exact⟨_,rfl,h3,h1,h4,h5⟩
theorem Im{l:List α}{k k':Int}(hc:DJ Q k l k'){G:(Int×Int->Option Int)->Int×Int->Option Int}(hl:l.length<=1048576)
 (step:∀L i (h:i<l.length) k k1,Q k l[i] k1->G L (k,(i:Int))=L (k1,w64 ((i:Int)+1))) (stop:∀L k,G L (k,(l.length:Int))=some k):AR G big (k,0)=some k':=by
 refine(Bz (n:=l.length) (fun i (k:Int)=>(k,(i:Int))) (fun i k=>DJ Q k (l.drop i) k') (fun _ _=>some k') (by omega) ?_ (by simpa using hc));intro L i k hk hi ih;rcases Nat.lt_or_ge i l.length with h|h
 .rw [CH h] at hk;cases hk with
  |cons hq ht=>
   rw [step L i h _ _ hq,Av h (by omega)];exact ih _ ht h
 .obtain rfl:i=l.length:=by omega
  rw [List.drop_length] at hk;cases hk;exact stop _ _
end
theorem Oo{α:Type}{v:List α}{i:Nat}(h:i<v.length)(a:α):at? (v.set i a) (i:Int)=some a:=by rw [DN];simp [h]
def xY(k:Int)(x:Int)(k1:Int):Prop:=x=k/\k1=k+1/\0<=k/\k<=2 ^ 60
theorem QQ{l:List Int}(hl:l.length<=1048576){k:Int}(h0:0<=k)(hb:k<=2 ^ 59) :
 ∃r,UU l k=some r/\(DJ xY k r.2 r.1/\r.2.length=l.length/\k<=r.1/\r.1<=k+1*l.length):=by
 have hs:=JA 1 l;unfold UU;have key:=Is (l:=l) (Q:=xY) (F:=Pc) (fun _=>1) (2 ^ 60) hl h0 (by rw [hs];omega) ?_ ?_
 .obtain⟨r,g1,g2,g3,g4,g5⟩:=key;exact⟨r,g1,g2,g3,g4,by rw [hs] at g5;omega⟩
 .intro L v k i h hv hx k0 kb;have hi:i<v.length:=by omega
  have ha:at? v (i:Int)=some l[i]:=by rw [DN];exact hx
  have e1:w64 (k+1)=k+1:=AM (by omega) (by omega);refine⟨k+1,k,?_,⟨rfl,rfl,k0,by omega⟩,by omega,by omega⟩;unfold Pc eL UW;dsimp only;rw [AX hi,Af];simp only [ha,AA,AE,Int.toNat_natCast,Oo hi,List.set_set,e1]
 .intro L v k hv;unfold Pc UW;dsimp only;rw [hv,AY,Ag,AE]
theorem VO{l:List Int}(hl:l.length<=1048576){k k':Int}(hc:DJ xY k l k'):YE l k=some k':=by
 unfold YE;refine Im hc hl ?_ ?_
 .rintro L i h k k1 ⟨hx,rfl,k0,kb⟩;have e1:w64 (k+1)=k+1:=AM (by omega) (by omega);unfold UZ;dsimp only;rw [AX h,Af];simp only [Ac h,AA,hx,ne_self,Ag,e1]
 .intro L k;unfold UZ fG;dsimp only;rw [AY,Ag,AE]
def kG(k:Int)(x:AG)(k1:Int):Prop:=x=⟨k,k+1,k+1+1,k+1+1+1,k+1+1+1+1,k+1+1+1+1+1,k+1+1+1+1+1+1,k+1+1+1+1+1+1+1,k+1+1+1+1+1+1+1+1,k+1+1+1+1+1+1+1+1+1⟩/\k1=k+1+1+1+1+1+1+1+1+1+1/\0<=k/\k<=2 ^ 60
theorem jV{l:List AG}(hl:l.length<=1048576){k:Int}(h0:0<=k)(hb:k<=2 ^ 59) :
 ∃r,mO l k=some r/\(DJ kG k r.2 r.1/\r.2.length=l.length/\k<=r.1/\r.1<=k+10*l.length):=by
 have hs:=JA 10 l;unfold mO;have key:=Is (l:=l) (Q:=kG) (F:=Pd) (fun _=>10) (2 ^ 60) hl h0 (by rw [hs];omega) ?_ ?_
 .obtain⟨r,g1,g2,g3,g4,g5⟩:=key;exact⟨r,g1,g2,g3,g4,by rw [hs] at g5;omega⟩
 .intro L v k i h hv hx k0 kb;have hi:i<v.length:=by omega
  have ha:at? v (i:Int)=some l[i]:=by rw [DN];exact hx
  have e1:w64 (k+1)=k+1:=AM (by omega) (by omega);have e2:w64 (k+1+1)=k+1+1:=AM (by omega) (by omega);have e3:w64 (k+1+1+1)=k+1+1+1:=AM (by omega) (by omega);have e4:w64 (k+1+1+1+1)=k+1+1+1+1:=AM (by omega) (by omega);have e5:w64 (k+1+1+1+1+1)=k+1+1+1+1+1:=AM (by omega) (by omega);have e6:w64 (k+1+1+1+1+1+1)=k+1+1+1+1+1+1:=AM (by omega) (by omega);have e7:w64 (k+1+1+1+1+1+1+1)=k+1+1+1+1+1+1+1:=AM (by omega) (by omega);have e8:w64 (k+1+1+1+1+1+1+1+1)=k+1+1+1+1+1+1+1+1:=AM (by omega) (by omega);have e9:w64 (k+1+1+1+1+1+1+1+1+1)=k+1+1+1+1+1+1+1+1+1:=AM (by omega) (by omega);have e10:w64 (k+1+1+1+1+1+1+1+1+1+1)=k+1+1+1+1+1+1+1+1+1+1:=AM (by omega) (by omega);refine⟨k+1+1+1+1+1+1+1+1+1+1,⟨k,k+1,k+1+1,k+1+1+1,k+1+1+1+1,k+1+1+1+1+1,k+1+1+1+1+1+1,k+1+1+1+1+1+1+1,k+1+1+1+1+1+1+1+1,k+1+1+1+1+1+1+1+1+1⟩,?_,⟨rfl,rfl,k0,by omega⟩,by omega,by omega⟩;unfold Pd eM eO eP eQ eR eS eT eU YB YC RC;dsimp only;rw [AX hi,Af];simp only [ha,AA,AE,Int.toNat_natCast,Oo hi,List.set_set,e1,e2,e3,e4,e5,e6,e7,e8,e9,e10]
 .intro L v k hv;unfold Pd RC;dsimp only;rw [hv,AY,Ag,AE]
theorem jQ{l:List AG}(hl:l.length<=1048576){k k':Int}(hc:DJ kG k l k'):mU l k=some k':=by
 unfold mU;refine Im hc hl ?_ ?_
 .rintro L i h k k1 ⟨hx,rfl,k0,kb⟩;have e1:w64 (k+1)=k+1:=AM (by omega) (by omega);have e2:w64 (k+1+1)=k+1+1:=AM (by omega) (by omega);have e3:w64 (k+1+1+1)=k+1+1+1:=AM (by omega) (by omega);have e4:w64 (k+1+1+1+1)=k+1+1+1+1:=AM (by omega) (by omega);have e5:w64 (k+1+1+1+1+1)=k+1+1+1+1+1:=AM (by omega) (by omega);have e6:w64 (k+1+1+1+1+1+1)=k+1+1+1+1+1+1:=AM (by omega) (by omega);have e7:w64 (k+1+1+1+1+1+1+1)=k+1+1+1+1+1+1+1:=AM (by omega) (by omega);have e8:w64 (k+1+1+1+1+1+1+1+1)=k+1+1+1+1+1+1+1+1:=AM (by omega) (by omega);have e9:w64 (k+1+1+1+1+1+1+1+1+1)=k+1+1+1+1+1+1+1+1+1:=AM (by omega) (by omega);have e10:w64 (k+1+1+1+1+1+1+1+1+1+1)=k+1+1+1+1+1+1+1+1+1+1:=AM (by omega) (by omega);unfold Ub;dsimp only;rw [AX h,Af];simp only [Ac h,AA,hx,ne_self,Ag,e1,e2,e3,e4,e5,e6,e7,e8,e9,e10]
 .intro L k;unfold Ub fJ;dsimp only;rw [AY,Ag,AE]
def bC(k:Int)(x:AD)(k1:Int):Prop:=x=⟨k,k+1,k+1+1,k+1+1+1⟩/\k1=k+1+1+1+1/\0<=k/\k<=2 ^ 60
theorem jU{l:List AD}(hl:l.length<=1048576){k:Int}(h0:0<=k)(hb:k<=2 ^ 59) :
 ∃r,mP l k=some r/\(DJ bC k r.2 r.1/\r.2.length=l.length/\k<=r.1/\r.1<=k+4*l.length):=by
 have hs:=JA 4 l;unfold mP;have key:=Is (l:=l) (Q:=bC) (F:=Pe) (fun _=>4) (2 ^ 60) hl h0 (by rw [hs];omega) ?_ ?_
 .obtain⟨r,g1,g2,g3,g4,g5⟩:=key;exact⟨r,g1,g2,g3,g4,by rw [hs] at g5;omega⟩
 .intro L v k i h hv hx k0 kb;have hi:i<v.length:=by omega
  have ha:at? v (i:Int)=some l[i]:=by rw [DN];exact hx
  have e1:w64 (k+1)=k+1:=AM (by omega) (by omega);have e2:w64 (k+1+1)=k+1+1:=AM (by omega) (by omega);have e3:w64 (k+1+1+1)=k+1+1+1:=AM (by omega) (by omega);have e4:w64 (k+1+1+1+1)=k+1+1+1+1:=AM (by omega) (by omega);refine⟨k+1+1+1+1,⟨k,k+1,k+1+1,k+1+1+1⟩,?_,⟨rfl,rfl,k0,by omega⟩,by omega,by omega⟩;unfold Pe eV eW eX eY UX;dsimp only;rw [AX hi,Af];simp only [ha,AA,AE,Int.toNat_natCast,Oo hi,List.set_set,e1,e2,e3,e4]
 .intro L v k hv;unfold Pe UX;dsimp only;rw [hv,AY,Ag,AE]
theorem jP{l:List AD}(hl:l.length<=1048576){k k':Int}(hc:DJ bC k l k'):mV l k=some k':=by
 unfold mV;refine Im hc hl ?_ ?_
 .rintro L i h k k1 ⟨hx,rfl,k0,kb⟩;have e1:w64 (k+1)=k+1:=AM (by omega) (by omega);have e2:w64 (k+1+1)=k+1+1:=AM (by omega) (by omega);have e3:w64 (k+1+1+1)=k+1+1+1:=AM (by omega) (by omega);have e4:w64 (k+1+1+1+1)=k+1+1+1+1:=AM (by omega) (by omega);unfold Uc;dsimp only;rw [AX h,Af];simp only [Ac h,AA,hx,ne_self,Ag,e1,e2,e3,e4]
 .intro L k;unfold Uc fK;dsimp only;rw [AY,Ag,AE]
def vM(k:Int)(x:AK)(k1:Int):Prop:=x=⟨k,k+1⟩/\k1=k+1+1/\0<=k/\k<=2 ^ 60
theorem sC{l:List AK}(hl:l.length<=1048576){k:Int}(h0:0<=k)(hb:k<=2 ^ 59) :
 ∃r,mQ l k=some r/\(DJ vM k r.2 r.1/\r.2.length=l.length/\k<=r.1/\r.1<=k+2*l.length):=by
 have hs:=JA 2 l;unfold mQ;have key:=Is (l:=l) (Q:=vM) (F:=Pf) (fun _=>2) (2 ^ 60) hl h0 (by rw [hs];omega) ?_ ?_
 .obtain⟨r,g1,g2,g3,g4,g5⟩:=key;exact⟨r,g1,g2,g3,g4,by rw [hs] at g5;omega⟩
 .intro L v k i h hv hx k0 kb;have hi:i<v.length:=by omega
  have ha:at? v (i:Int)=some l[i]:=by rw [DN];exact hx
  have e1:w64 (k+1)=k+1:=AM (by omega) (by omega);have e2:w64 (k+1+1)=k+1+1:=AM (by omega) (by omega);refine⟨k+1+1,⟨k,k+1⟩,?_,⟨rfl,rfl,k0,by omega⟩,by omega,by omega⟩;unfold Pf eZ eg UY;dsimp only;rw [AX hi,Af];simp only [ha,AA,AE,Int.toNat_natCast,Oo hi,List.set_set,e1,e2]
 .intro L v k hv;unfold Pf UY;dsimp only;rw [hv,AY,Ag,AE]
theorem re{l:List AK}(hl:l.length<=1048576){k k':Int}(hc:DJ vM k l k'):mW l k=some k':=by
 unfold mW;refine Im hc hl ?_ ?_
 .rintro L i h k k1 ⟨hx,rfl,k0,kb⟩;have e1:w64 (k+1)=k+1:=AM (by omega) (by omega);have e2:w64 (k+1+1)=k+1+1:=AM (by omega) (by omega);unfold Ud;dsimp only;rw [AX h,Af];simp only [Ac h,AA,hx,ne_self,Ag,e1,e2]
 .intro L k;unfold Ud fL;dsimp only;rw [AY,Ag,AE]
end Lv.P
namespace Lv.P
open Go (IntKind BinOp UnOp)
theorem xE{α:Type}{v:List α}{i:Nat}(h:i<v.length)(a:α):(v.set i a)[i]?=some a:=by simp [h]
def ni(k:Int)(s:List AK)(k1:Int):Prop:=s.length<=1048576/\DJ vM k s k1/\0<=k/\0<=k1
theorem fk:∀l:List (List AK),(l.map (fun s=>2*s.length)).sum=2*l.flatten.length
 | []=>rfl
 |s::l=>by rw [List.map_cons,List.sum_cons,fk l,List.flatten_cons,List.length_append];omega
theorem jW{w:AP}(hw:BW w){k:Int}(h0:0<=k)(hb:k<=2 ^ 58) :
 ∃r,mR w.AJ k=some r/\(DJ ni k r.2 r.1/\r.2.length=w.AJ.length/\k<=r.1/\r.1<=k+2*w.AJ.flatten.length):=by
 have hs:=fk w.AJ;have h1:=hw.1;have h2:=hw.2;unfold mR;have key:=Is (l:=w.AJ) (Q:=ni) (F:=Pg) (fun s=>2*s.length) (2 ^ 59) h1 h0 (by rw [hs];omega) ?_ ?_
 .obtain⟨r,g1,g2,g3,g4,g5⟩:=key;exact⟨r,g1,g2,g3,g4,by rw [hs] at g5;omega⟩
 .intro L v k i h hv hx k0 kb;have hi:i<v.length:=by omega
  have ha:at? v (i:Int)=some w.AJ[i]:=by rw [DN];exact hx
  have hl:=Fu h;obtain⟨r,e,c1,c2,c3,c4⟩:=sC (l:=w.AJ[i]) (by omega) k0 (by omega);refine⟨r.1,r.2,?_,⟨by omega,c1,k0,by omega⟩,c3,by push_cast;omega⟩;unfold Pg;dsimp only;rw [AX hi,Af,ha,AA,AA,e,AA,BE rfl,Int.toNat_natCast,hx,AA]
 .intro L v k hv;unfold Pg eo;dsimp only;rw [hv,AY,Ag,AE]
theorem jR{l:List (List AK)}(hl:l.length<=1048576){k k':Int}(hc:DJ ni k l k'):mX l k=some k':=by
 unfold mX;refine Im hc hl ?_ ?_
 .rintro L i h k k1 ⟨hs,c,k0,k10⟩;unfold Ue;dsimp only;rw [AX h,Af,Ac h,AA,re hs c,AA,AT,if_neg (by omega)]
 .intro L k;unfold Ue fM;dsimp only;rw [AY,Ag,AE]
def kF(k:Int)(c:AU)(k1:Int):Prop:=
 c.AN=⟨k,k+1,k+1+1,k+1+1+1,k+1+1+1+1⟩/\(0<=k/\k<=2 ^ 60)/\c.Row.length<=1048576/\c.DK.AJ.length<=1048576/\0<=k1/\∃a,DJ bC (k+1+1+1+1+1) c.Row a/\0<=a/\DJ ni a c.DK.AJ k1
def uE(c:AU):Nat:=5+4*c.Row.length+2*c.DK.AJ.flatten.length
theorem gO{l:List AU}(hl:l.length<=1048576)(hf:∀c∈l,Di c){k:Int}(h0:0<=k)(hb:k<=2 ^ 56) :
 ∃r,mS l k=some r/\(DJ kF k r.2 r.1/\r.2.length=l.length/\k<=r.1/\r.1<=k+2 ^ 50):=by
 have hs:=pW (l:=l) (cst:=uE) (m:=6291461) fun c hc=>by
  have:=hf c hc;have h1:=this.1;have h2:=this.2.2;unfold uE;omega
 unfold mS;have key:=Is (l:=l) (Q:=kF) (F:=Ph) uE (2 ^ 57) hl h0 (by omega) ?_ ?_
 .obtain⟨r,g1,g2,g3,g4,g5⟩:=key;exact⟨r,g1,g2,g3,g4,by omega⟩
 .intro L v k i h hv hx k0 kb;have hi:i<v.length:=by omega
  have ha:at? v (i:Int)=some l[i]:=by rw [DN];exact hx
  have hc:=hf _ (List.getElem_mem h);have hr:=hc.1;have hw1:=hc.2.1;have hw2:=hc.2.2;have hcst:uE l[i]=5+4*l[i].Row.length+2*l[i].DK.AJ.flatten.length:=rfl;have e1:w64 (k+1)=k+1:=AM (by omega) (by omega);have e2:w64 (k+1+1)=k+1+1:=AM (by omega) (by omega);have e3:w64 (k+1+1+1)=k+1+1+1:=AM (by omega) (by omega);have e4:w64 (k+1+1+1+1)=k+1+1+1+1:=AM (by omega) (by omega);have e5:w64 (k+1+1+1+1+1)=k+1+1+1+1+1:=AM (by omega) (by omega);obtain⟨a,ea,a1,a2,a3,a4⟩:=jU (l:=l[i].Row) hr (k:=k+1+1+1+1+1) (by omega) (by omega);obtain⟨b,eb,b1,b2,b3,b4⟩:=jW (w:=l[i].DK) hc.2 (k:=a.1) (by omega) (by omega);refine⟨b.1,⟨⟨k,k+1,k+1+1,k+1+1+1,k+1+1+1+1⟩,a.2,⟨b.2⟩⟩,?_,⟨rfl,⟨k0,by omega⟩,by dsimp only;omega,by dsimp only;omega,by omega,a.1,a1,by omega,b1⟩,by omega,by omega⟩;unfold Ph eu fA fB fC fD fE;dsimp only;rw [AX hi,Af];simp only [ha,AA,AE,Int.toNat_natCast,Oo hi,List.set_set,e1,e2,e3,e4,e5,ea,eb,xE hi];rw [BE trivial,BE trivial]
 .intro L v k hv;unfold Ph fF;dsimp only;rw [hv,AY,Ag,AE]
theorem fq{l:List AU}(hl:l.length<=1048576){k k':Int}(hc:DJ kF k l k'):mG l k=some k':=by
 unfold mG;refine Im hc hl ?_ ?_
 .rintro L i h k k1 ⟨hs,⟨k0,kb⟩,hr,hw,k10,a,ca,a0,cb⟩;have e1:w64 (k+1)=k+1:=AM (by omega) (by omega);have e2:w64 (k+1+1)=k+1+1:=AM (by omega) (by omega);have e3:w64 (k+1+1+1)=k+1+1+1:=AM (by omega) (by omega);have e4:w64 (k+1+1+1+1)=k+1+1+1+1:=AM (by omega) (by omega);have e5:w64 (k+1+1+1+1+1)=k+1+1+1+1+1:=AM (by omega) (by omega);have ha:decide (a<0)=false:=by rw [decide_eq_false_iff_not];omega
  have hk:decide (k1<0)=false:=by rw [decide_eq_false_iff_not];omega
  unfold UB;dsimp only;rw [AX h,Af];simp only [Ac h,AA,hs,ne_self,Ag,e1,e2,e3,e4,e5,jP hr ca,jR hw cb,ha,hk]
 .intro L k;unfold UB dn;dsimp only;rw [AY,Ag,AE]
theorem Nn{h:AH}(hf:Ba h){k:Int}(h0:0<=k)(hb:k<=2 ^ 50) :
 ∃k' s ps cs td js,YD h k=some (k',⟨⟨s,h.AI.A2,h.AI.Room,h.AI.Aq,h.AI.Au,h.AI.As,h.AI.Rest,h.AI.A3,h.AI.BL⟩,h.Now,h.Ai,ps,cs,td,js⟩)/\(k<=k'/\k'<=2 ^ 55) /\
  ∀r:AH,r.AI.AN=s->r.AF=ps->r.AW=cs->r.BA=td->r.BO=js->PT r k=some k':=by
 have g1:=hf.HV;have g2:=hf.EA;have g3:=hf.SS;have g4:=hf.todo;have g5:=hf.jT;obtain⟨a,ea,a1,a2,a3,a4⟩:=QQ (l:=h.AI.AN) g1 h0 (by omega);obtain⟨b,eb,b1,b2,b3,b4⟩:=jV (l:=h.AF) g2 (k:=a.1) (by omega) (by omega);obtain⟨c,ec,c1,c2,c3,c4⟩:=gO (l:=h.AW) g3 hf.TG (k:=b.1) (by omega) (by omega);obtain⟨d,ed,d1,d2,d3,d4⟩:=QQ (l:=h.BA) g4 (k:=c.1) (by omega) (by omega);obtain⟨e,ee,e1,e2,e3,e4⟩:=QQ (l:=h.BO) g5 (k:=d.1) (by omega) (by omega);refine⟨e.1,a.2,b.2,c.2,d.2,e.2,?_,⟨by omega,by omega⟩,?_⟩
 .unfold YD rB;simp only [ea,eb,ec,ed,ee,AA]
 .rintro r h1 h2 h3 h4 h5;have n1:decide (a.1<0)=false:=by rw [decide_eq_false_iff_not];omega
  have n2:decide (b.1<0)=false:=by rw [decide_eq_false_iff_not];omega
  have n3:decide (c.1<0)=false:=by rw [decide_eq_false_iff_not];omega
  have n4:decide (d.1<0)=false:=by rw [decide_eq_false_iff_not];omega
  have n5:decide (e.1<0)=false:=by rw [decide_eq_false_iff_not];omega
  unfold PT rD;simp only [h1,h2,h3,h4,h5,VO (l:=a.2) (by omega) a1,jQ (l:=b.2) (by omega) b1,fq (l:=c.2) (by omega) c1,VO (l:=d.2) (by omega) d1,VO (l:=e.2) (by omega) e1,AA,n1,n2,n3,n4,n5,Ag]
theorem tM{t:List Int}{n:Nat}(hn:n<=4)(h:KY t n=true):t.length<=4:=by
 unfold KY at h;rw [H5] at h;refine Classical.byContradiction fun hg=>?_
 have key:∀i (hi:i<t.length),0<=t[i]/\t[i]<n/\∀j (hj:j<i),t[j]'(by omega)≠t[i]:=by
  intro i hi;have:=h i hi;unfold Oe at this;rw [Ay hi,Bool.and_eq_true,CL,Bool.not_eq_true',List.any_eq_false] at this;rw [AM (by omega) (by omega)] at this;refine⟨by omega,by omega,fun j hj e=>?_⟩;have hm:t[j]'(by omega)∈t.take i:=by rw [List.mem_take_iff_getElem];exact⟨j,by omega,rfl⟩
  exact this.2 _ hm (by rw [e];simp)
 have k0:=key 0 (by omega);have k1:=key 1 (by omega);have k2:=key 2 (by omega);have k3:=key 3 (by omega);have k4:=key 4 (by omega);have a10:=k1.2.2 0 (by omega);have a20:=k2.2.2 0 (by omega);have a21:=k2.2.2 1 (by omega);have a30:=k3.2.2 0 (by omega);have a31:=k3.2.2 1 (by omega);have a32:=k3.2.2 2 (by omega);have a40:=k4.2.2 0 (by omega);have a41:=k4.2.2 1 (by omega);have a42:=k4.2.2 2 (by omega);have a43:=k4.2.2 3 (by omega);omega
theorem o8{h:AH}:(sI h).length<=500:=by
 unfold sI;split
 .rename_i hb;have hk:=Gg hb;have hr:=BZ hk.1;have h1:=B2 GN (m:=10) (fun _=>Nat.le_refl _) h.AF;have h2:=B2 (fun c:AU=>[c.AN.Cd]) (m:=1) (fun _=>Nat.le_refl _) h.AW;have h3:=B2 (fun x:Int=>[w64 (x+1)]) (m:=1) (fun _=>Nat.le_refl _) h.BO;have h4:=tM (t:=h.BA) (n:=h.AW.length) (by omega) hk.2.2.2.2.2.2.1;unfold DI FJ;simp only [List.length_append,List.length_cons,List.length_nil];omega
 .simp
end Lv.P
namespace Lv.P
open Go (IntKind BinOp UnOp)
theorem jd:mT=some ⟨List.replicate 9 []⟩:=by
 unfold mT;refine(Bz (n:=9) (fun i (v:AP)=>((i:Int),v)) (fun i v=>v.AJ=List.replicate i []) (fun _ _=>some (⟨List.replicate 9 []⟩:AP)) (by omega) ?_ (v:=⟨[]⟩) rfl);rintro L i ⟨s⟩ hv hi ih;unfold fI fH;dsimp only at hv ih ⊢;subst hv;rw [AT];rcases Nat.lt_or_ge i 9 with h|h
 .rw [if_pos (by omega),BE (by simp only [List.length_replicate];unfold lim;omega),Av h (by omega)];exact ih ⟨_⟩ (by rw [List.replicate_succ']) h
 .obtain rfl:i=9:=by omega
  rw [if_neg (by omega),AE]
theorem jc:rC=some ⟨List.replicate 9 []⟩:=rfl
theorem oV{w:AP}(hw:BW w):mE w w=some true:=by
 unfold mE;have:=hw.1;rw [oY (by omega) fun x hx=>by have:=sD hx;have:=hw.2;omega,AA,Ae,Af]
theorem oT{c:AU}(hc:Di c):mF c c=some true:=by
 have:=hc.1;unfold mF;rw [jI,AA,Ae,Af,jH (by omega),AA,Ae,Af,oV hc.2,AA,Ae,Af]
theorem jG{l:List AU}(hl:l.length<=1048576)(hp:∀x∈l,Di x):lX l l=some true:=by
 unfold lX;refine YK (by omega) ?_ ?_
 .intro L i h;unfold Tg;rw [AX h,Af,Ac h,AA,AA,oT (hp _ (List.getElem_mem h)),AA,Ae,Af]
 .intro L;unfold Tg dD;rw [AY,Ag,AE]
theorem oU{r:AQ}(hr:r.AN.length<=1048576):lu r r=some true:=by
 unfold lu;rw [Pr (by omega),AA,Ae,Af];simp only [ne_self,Ag]
theorem RF{h:AH}(hf:Ba h):Mo h h=some true:=by
 have g1:=hf.HV;have g2:=hf.EA;have g3:=hf.SS;have g4:=hf.todo;have g5:=hf.jT;unfold Mo;rw [oU g1,AA,Ae,Af,ne_self,Ag,ne_self,Ag,jJ (by omega),AA,Ae,Af,jG g3 hf.TG,AA,Ae,Af,Pr (by omega),AA,Ae,Af,Pr (by omega),AA,Ae,Af]
theorem pU(h:AH)(q:Int):(Ll h q).length<=2600:=by
 unfold Ll;split
 .rename_i hb;have hn:=o8 (h:=h);unfold sI at hn;rw [if_pos hb.1] at hn;have hp:=QV (q::DI h);rw [List.length_cons] at hp;rw [List.length_append,rX];omega
 .simp
end Lv.P
