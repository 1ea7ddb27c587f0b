/-
  Plain laws: a pin is put into a wheel; the wheel of a row of pins.
-/
import Derived.Test.YtffakkimlookoaaGreatKD
import Derived.Test.YtffakkimlookoaaGreatPE
import Derived.Test.YtffakkimlookoaaGreatPC
set_option linter.unusedVariables false
set_option linter.unusedSimpArgs false
set_option linter.unusedSectionVars false
namespace Lv.P
open Lv Go
def Rs(w:AP)(p:AK):AP:=⟨w.AJ.set (p.At.tmod 9).toNat (put ltP p (w.AJ.getD (p.At.tmod 9).toNat []))⟩
noncomputable def Lr(w:AP)(p:AK):AP×Bool:=if EF w=true/\Rj p=true/\EF (Rs w p)=true then (Rs w p,true) else (w,false)
theorem Sz{p:AK}(h:Rj p=true):(1<=p.At/\p.At<=1000008)/\1<=p.Id/\p.Id<=999:=by
 unfold Rj at h;simpa only [Bool.and_eq_true,CL] using h
theorem n0{n:Int}(h:1<=n):∃k:Nat,k<9/\n.tmod 9=(k:Int):=by
 obtain⟨m,rfl⟩:=Int.eq_ofNat_of_zero_le (show 0<=n by omega);refine⟨m % 9,Nat.mod_lt _ (by omega),?_⟩;rw [Int.tmod_eq_emod_of_nonneg (by omega)];rfl
theorem rW{α:Type}{l:List (List α)}{k:Nat}(h:k<l.length)(x:List α):(l.set k x).flatten.length+l[k].length=l.flatten.length+x.length:=by
 rw [List.set_eq_take_append_cons_drop,if_pos h]
 conv=>rhs;rw [<-List.take_append_drop k l,List.drop_eq_getElem_cons h]
 simp only [List.flatten_append,List.flatten_cons,List.length_append];omega
theorem vS{α:Type}{l:List (List α)}{k:Nat}(h:k<l.length){x:List α}{a:α}(ha:a∈x):a∈(l.set k x).flatten:=by
 rw [List.mem_flatten];exact⟨x,List.mem_set h _,ha⟩
theorem XO{w:AP}(hw:JE w){p:AK}(hp:1<=p.At):BW (Rs w p)/\p∈(Rs w p).AJ.flatten:=by
 obtain⟨k,hk,e⟩:=n0 hp;have h9:=hw.nine;have hf:=hw.few;unfold Rs;rw [e,Int.toNat_natCast];have hk':k<w.AJ.length:=by omega
 have h1:=rW hk' (put ltP p (w.AJ.getD k []));have h2:w.AJ.getD k []=w.AJ[k]:=by simp [List.getD,hk']
 rw [h2,Dg] at h1;refine⟨⟨by dsimp only;rw [List.length_set];omega,by dsimp only;rw [h2];omega⟩,vS hk' (S5.2 (.inl rfl))⟩
theorem Xe{w:AP}(hw:BW w)(p:AK):eB w p=some (Lr w p):=by
 unfold eB UH;rw [Xx hw,AA,Ga hw,AA,Ae];by_cases hB:EF w=true
 .have hP:=Co.1 hB;rw [hB,Af,AE,AT];by_cases hp:p.At<1
  .rw [if_pos hp];unfold Lr;rw [if_neg];rintro⟨_,h2,_⟩;have:=Sz h2;omega
  .rw [if_neg hp];obtain⟨hf,hm⟩:=XO hP (p:=p) (by omega);obtain⟨k,hk,e⟩:=n0 (n:=p.At) (by omega);have h9:=hP.nine;have hfw:=hP.few;have hk':k<w.AJ.length:=by omega
   have h2:w.AJ.getD k []=w.AJ[k]:=by simp [List.getD,hk']
   have hsl:=Fu hk';have hws:(AP.mk (w.AJ.set k (put ltP p w.AJ[k])))=Rs w p:=by unfold Rs;rw [e,Int.toNat_natCast,h2]
   simp only [e,Ac hk',AA,Oa (l:=w.AJ[k]) (by unfold lim;omega) p,Int.toNat_natCast,hws,Ga hf,Xx hw,Ae];unfold Lr;cases hB2:EF (Rs w p) with
   |false=>rw [Ag,if_neg (by simp)]
   |true=>
    rw [Af,if_pos ⟨hB,(Co.1 hB2).pins p hm,rfl⟩]
 .have hB:EF w=false:=by simpa using hB
  rw [hB,Ag,AE,Af];unfold Lr;rw [hB,if_neg (by simp)]
theorem XW{w:AP}(hw:BW w)(p:AK):mZ w p=some (Lr w p):=by
 unfold mZ Uf;rw [Xw hw,AA,GU hw,AA,Ae];by_cases hB:EF w=true
 .have hP:=Co.1 hB;rw [hB,Af,VS,AA,AE,Ae];cases hp:Rj p with
  |false=>
   rw [Ag];unfold Lr;rw [hp,if_neg (by simp)]
  |true=>
   have hp1:=(Sz hp).1.1;rw [Af];obtain⟨hf,hm⟩:=XO hP hp1;obtain⟨k,hk,e⟩:=n0 hp1;have h9:=hP.nine;have hfw:=hP.few;have hk':k<w.AJ.length:=by omega
   have h2:w.AJ.getD k []=w.AJ[k]:=by simp [List.getD,hk']
   have hsl:=Fu hk';have hws:(AP.mk (w.AJ.set k (put ltP p w.AJ[k])))=Rs w p:=by unfold Rs;rw [e,Int.toNat_natCast,h2]
   have hj4:∀i:Nat,i<=w.AJ[k].length->∀s:List AK,s=w.AJ[k].take i++p::w.AJ[k].drop i->Ug w p w w.AJ[k] (i:Int)=(bd (O9 (AP.mk (w.AJ.set k s))) fun x=>br (!x) (some (w,false)) (some (AP.mk (w.AJ.set k s),true))):=by
    intro i hi s hs;have hins:vj w.AJ[k] (i:Int) [p]=@some (C.l (.st 5)).D s:=by
     show oo (.st 5) w.AJ[k] (i:Int) [p]=some s;have hc:(0:Int)<=i/\(i:Int).toNat<=w.AJ[k].length/\[p]≠([]:List AK)/\w.AJ[k].length+[p].length<=lim:=⟨by omega,by simpa using hi,by simp,by rw [Er];unfold lim;omega⟩;unfold oo;refine(if_pos hc).trans ?_;rw [hs,Int.toNat_natCast];congr 1;exact List.append_assoc _ _ _
    unfold Ug;have hh:Y.Nk k 0 [U.sl (C.st 5) s].length [(k,0)]:=⟨rfl,⟨Nat.le_refl _,by simp⟩,trivial⟩;rw [hins];refine(AA (α:=List AK) s _).trans ?_;simp only [e,Ac hk',AA,Int.toNat_natCast,BE hh,Xw hw]
   simp only [e,Ac hk',AA];have hloop:=Wt (lt:=ltP) (F:=Pk w p w w.AJ[k]) (l:=w.AJ[k]) (x:=p) (fun s=>bd (O9 (AP.mk (w.AJ.set k s))) fun x=>br (!x) (some (w,false)) (some (AP.mk (w.AJ.set k s),true))) (by omega) ?_ ?_
   .rw [hloop,hws,GU hf,AA,Ae];unfold Lr;cases hB2:EF (Rs w p) with
    |false=>rw [Ag,if_neg (by simp)]
    |true=>rw [Af,if_pos ⟨hB,hp,rfl⟩]
   .intro L i hi;unfold Pk Pj;obtain⟨c,hc,hc2,_⟩:=Eh w.AJ[k][i] p;rw [AX hi,Af,Ac hi,AA,hc,AA,AE,hc2,AE,hj4 i (by omega) _ rfl]
   .intro L;unfold Pk Pj;rw [AY,Ag,AE,Ag,AE,hj4 _ (Nat.le_refl _) (w.AJ[k]++[p]) (by simp)]
 .have hB:EF w=false:=by simpa using hB
  rw [hB,Ag,AE,Af];unfold Lr;rw [hB,if_neg (by simp)]
theorem iW{w:AP}(hw:BW w)(p:AK):BW (Lr w p).1:=by
 unfold Lr;split
 .rename_i h;exact(XO (Co.1 h.1) (Sz h.2.1).1.1).1
 .exact hw
noncomputable def Mu:List AK->AP->AP×Bool
 | [],w=>(w,true)
 |p::ps,w=>if (Lr w p).2=true then Mu ps (Lr w p).1 else (⟨[]⟩,false)
noncomputable def Fx(l:List AK):AP×Bool:=Mu l ⟨List.replicate 9 []⟩
theorem XM:BW ⟨List.replicate 9 []⟩:=by constructor <;> simp
theorem Y5{l:List AK}{F:(Int×AP->Option (AP×Bool))->Int×AP->Option (AP×Bool)}(hl:l.length<2 ^ 62)
 (step:∀L (i:Nat) (h:i<l.length) w,BW w->F L ((i:Int),w)=br (!(Lr w l[i]).2) (some (⟨[]⟩,false)) (L (w64 ((i:Int)+1),(Lr w l[i]).1)))
 (stop:∀L w,F L ((l.length:Int),w)=some (w,true)):AR F big (0,⟨List.replicate 9 []⟩)=some (Fx l):=by
 refine(Bz (n:=l.length) (fun i (w:AP)=>((i:Int),w)) (fun _ w=>BW w) (fun i w=>some (Mu (l.drop i) w)) (by omega) ?_ (v:=⟨List.replicate 9 []⟩) XM).trans (by simp [Fx]);intro L i w hw hi ih;rcases Nat.lt_or_ge i l.length with h|h
 .rw [step L i h w hw,Av h (by omega),CH h,Mu,Ae];cases e:(Lr w l[i]).2 with
  |true=>rw [Af,ih _ (iW hw _) h];rfl
  |false=>rfl
 .obtain rfl:i=l.length:=by omega
  rw [stop];simp [Mu]
theorem bc{l:List AK}(hl:l.length<=1048576):mf l=some (Fx l):=by
 unfold mf;rw [jd,AA];refine Y5 (by omega) ?_ ?_
 .intro L i h w hw;unfold Uq;dsimp only;rw [AX h,Af,Ac h,AA,Xe hw,AA,AA,B0,B0]
 .intro L w;unfold Uq fS;dsimp only;rw [AY,Ag,AE]
theorem aD{l:List AK}(hl:l.length<=1048576):ma l=some (Fx l):=by
 unfold ma;rw [jc,AA];refine Y5 (by omega) ?_ ?_
 .intro L i h w hw;unfold Uh;dsimp only;rw [AX h,Af,Ac h,AA,XW hw,AA]
 .intro L w;unfold Uh fO;dsimp only;rw [AY,Ag,AE]
theorem Y6:∀(l:List AK) {w:AP},BW w->BW (Mu l w).1
 | [],w,hw=>hw
 |p::ps,w,hw=>by
  unfold Mu;split
  .exact Y6 ps (iW hw p)
  .constructor <;> simp
theorem SR(l:List AK):BW (Fx l).1:=Y6 l XM
end Lv.P
namespace Lv.P
open Lv Go
section
variable{α:Type}{lt:α->α->Bool}
theorem Nl(a:α)(l:List α):BH lt (a::l)=put lt a (BH lt l):=rfl
theorem gj{a:α}{l:List α}(h:∀b∈l,lt b a=false):put lt a l=a::l:=by
 cases l with
 |nil=>rfl
 |cons z l=>rw [put,if_neg (by rw [h z (List.mem_cons_self ..)];simp)]
theorem gk{a:α}:∀{l:List α},(∀b∈l,lt b a=true)->put lt a l=l++[a]
 | [],_=>rfl
 |z::l,h=>by
  rw [put,if_pos (h z (List.mem_cons_self ..)),gk fun b hb=>h b (List.mem_cons_of_mem _ hb)];rfl
theorem Yv(h:Swo lt){a z:α}{l:List α}(hs:Srt lt (z::l))(hz:lt z a=false):∀b∈z::l,lt b a=false:=by
 intro b hb;rcases List.mem_cons.1 hb with rfl|hb
 .exact hz
 .have h1:=(List.pairwise_cons.1 hs).1 b hb;cases e:lt b a with
  |false=>rfl
  |true=>
   rcases h.neg b z a e with h2|h2
   .rw [h1] at h2;cases h2
   .rw [hz] at h2;cases h2
theorem nh(h:Swo lt)(a:α):∀{l:List α},Srt lt l->Srt lt (put lt a l)
 | [],_=>List.pairwise_singleton _ _
 |z::l,hs=>by
  rw [put];split
  .rename_i hz;refine List.pairwise_cons.2 ⟨?_,nh h a (List.pairwise_cons.1 hs).2⟩;intro b hb;rcases S5.1 hb with rfl|hb
   .exact h.ij _ _ hz
   .exact(List.pairwise_cons.1 hs).1 b hb
  .rename_i hz;exact List.pairwise_cons.2 ⟨Yv h hs (by simpa using hz),hs⟩
theorem RU(h:Swo lt):∀l:List α,Srt lt (BH lt l)
 | []=>List.Pairwise.nil
 |a::l=>nh h a (RU h l)
theorem VD(h:Swo lt)(q:α->Bool)(a:α):∀{l:List α},Srt lt l->(put lt a l).filter q=if q a=true then put lt a (l.filter q) else l.filter q
 | [],_=>by by_cases hq:q a=true <;> simp [put,hq]
 |z::l,hs=>by
  have ih:=VD h q a (List.pairwise_cons.1 hs).2;rw [put];split
  .rename_i hz;rw [List.filter_cons,ih,List.filter_cons];by_cases hq:q a=true <;> by_cases hqz:q z=true <;> simp [hq,hqz,put,hz]
  .rename_i hz;have habove:=Yv h hs (by simpa using hz);rw [List.filter_cons];by_cases hq:q a=true
   .rw [if_pos hq,if_pos hq,gj];intro b hb;exact habove b (List.mem_filter.1 hb).1
   .rw [if_neg hq,if_neg hq]
theorem GS(h:Swo lt)(q:α->Bool):∀l:List α,(BH lt l).filter q=BH lt (l.filter q)
 | []=>rfl
 |a::l=>by
  rw [Nl,VD h q a (RU h l),GS h q l,List.filter_cons];by_cases hq:q a=true
  .rw [if_pos hq,if_pos hq,Nl]
  .rw [if_neg hq,if_neg hq]
theorem QJ(h:Swo lt):∀{l:List α},(l.Pairwise fun a b=>lt a b=true)->BH lt l=l
 | [],_=>rfl
 |a::l,hs=>by
  rw [Nl,QJ h (List.pairwise_cons.1 hs).2,gj];intro b hb;exact h.ij _ _ ((List.pairwise_cons.1 hs).1 b hb)
theorem IZ(h:Swo lt):∀{l:List α},(∀k (hk:k+1<l.length),lt l[k] l[k+1]=true)->l.Pairwise fun a b=>lt a b=true
 | [],_=>List.Pairwise.nil
 | [a],_=>List.pairwise_singleton _ _
 |a::b::l,hc=>by
  have ih:=IZ h (l:=b::l) fun k hk=>hc (k+1) (by simpa using hk)
  have h1:lt a b=true:=hc 0 (by simp);refine List.pairwise_cons.2 ⟨?_,ih⟩;intro c hcm;rcases List.mem_cons.1 hcm with rfl|hcm
  .exact h1
  .exact h.trans h1 ((List.pairwise_cons.1 ih).1 c hcm)
end
theorem QP{α β:Type}{f g:β->List α}:∀{l:List β},(∀i∈l,(f i).Sublist (g i))->(l.map f).flatten.Sublist (l.map g).flatten
 | [],_=>List.Sublist.slnil
 |i::l,h=>by
  simp only [List.map_cons,List.flatten_cons];exact(h i (List.mem_cons_self ..)).append (QP fun j hj=>h j (List.mem_cons_of_mem _ hj))
def EJ(i:Nat)(p:AK):Bool:=p.At.tmod 9==(i:Int)
theorem Fk{i:Nat}{p:AK}:EJ i p=true↔p.At.tmod 9=(i:Int):=by unfold EJ;exact beq_iff_eq
theorem Oc{w:AP}(hw:JE w){i:Nat}(hi:i<w.AJ.length):(w.AJ.flatten).filter (EJ i)=w.AJ[i]:=by
 have hin:∀j (hj:j<w.AJ.length),∀p∈w.AJ[j],p.At.tmod 9=(j:Int):=by
  intro j hj p hp;obtain⟨k,hk,rfl⟩:=List.mem_iff_getElem.1 hp;exact hw.at_ j hj k hk
 have e:w.AJ.flatten=(w.AJ.take i).flatten++(w.AJ[i]++(w.AJ.drop (i+1)).flatten):=by
  conv=>lhs;rw [<-List.take_append_drop i w.AJ,List.drop_eq_getElem_cons hi]
  simp only [List.flatten_append,List.flatten_cons]
 have h1:((w.AJ.take i).flatten).filter (EJ i)=[]:=by
  rw [List.filter_eq_nil_iff];intro p hp;obtain⟨s,hs,hps⟩:=List.mem_flatten.1 hp;obtain⟨j,hj,rfl⟩:=List.mem_iff_getElem.1 hs;rw [List.length_take] at hj;rw [List.getElem_take] at hps;rw [Fk,hin j (by omega) p hps];omega
 have h2:((w.AJ.drop (i+1)).flatten).filter (EJ i)=[]:=by
  rw [List.filter_eq_nil_iff];intro p hp;obtain⟨s,hs,hps⟩:=List.mem_flatten.1 hp;obtain⟨j,hj,rfl⟩:=List.mem_iff_getElem.1 hs;rw [List.length_drop] at hj;rw [List.getElem_drop] at hps;rw [Fk,hin (i+1+j) (by omega) p hps];omega
 have h3:(w.AJ[i]).filter (EJ i)=w.AJ[i]:=by
  rw [List.filter_eq_self];intro p hp;rw [Fk];exact hin i hi p hp
 rw [e,List.filter_append,List.filter_append,h1,h2,h3];simp
def Lq(S:List AK)(j:Nat):AP:=⟨(List.range 9).map fun i=>(S.take j).filter (EJ i)⟩
theorem Y7{w:AP}(hw:JE w):w=⟨(List.range 9).map fun i=>(BH ltP w.AJ.flatten).filter (EJ i)⟩:=by
 have h9:=hw.nine;cases w with
 |mk sp=>
  congr 1;dsimp only at h9 hw ⊢;apply List.ext_getElem
  .simp [h9]
  .intro i h1 h2;rw [List.getElem_map,List.getElem_range,GS Cx,Oc hw h1];exact(QJ Cx (IZ Cx (hw.srt i h1))).symm
theorem se{w:AP}(hw:JE w)(j:Nat):JE (Lq (BH ltP w.AJ.flatten) j):=by
 have hsub:(Lq (BH ltP w.AJ.flatten) j).AJ.flatten.Sublist w.AJ.flatten:=by
  conv=>rhs;rw [Y7 hw]
  exact QP fun i _=>(List.take_sublist _ _).filter _
 have hsp:∀i (h:i<(Lq (BH ltP w.AJ.flatten) j).AJ.length),(Lq (BH ltP w.AJ.flatten) j).AJ[i]=((BH ltP w.AJ.flatten).take j).filter (EJ i):=by
  intro i h;simp only [Lq,List.getElem_map,List.getElem_range]
 have hstr:∀i,i<9->(((BH ltP w.AJ.flatten).take j).filter (EJ i)).Pairwise fun a b=>ltP a b=true:=by
  intro i hi;have h1:i<w.AJ.length:=by rw [hw.nine];exact hi
  have h2:((BH ltP w.AJ.flatten).filter (EJ i))=w.AJ[i]:=by
   rw [GS Cx,Oc hw h1];exact QJ Cx (IZ Cx (hw.srt i h1))
  refine List.Pairwise.sublist ((List.take_sublist _ _).filter _) ?_;rw [h2];exact IZ Cx (hw.srt i h1)
 refine⟨by simp [Lq],Nat.le_trans hsub.length_le hw.few,fun p hp=>hw.pins p (hsub.subset hp),hw.ids.sublist hsub,?_,?_⟩
 .intro i h k hk;have hm:(Lq (BH ltP w.AJ.flatten) j).AJ[i][k]∈(Lq (BH ltP w.AJ.flatten) j).AJ[i]:=List.getElem_mem hk;have hall:∀p∈(Lq (BH ltP w.AJ.flatten) j).AJ[i],EJ i p=true:=by
   rw [hsp i h];intro p hp;exact(List.mem_filter.1 hp).2
  exact Fk.1 (hall _ hm)
 .intro i h k hk;have h9:i<9:=by simpa [Lq] using h
  have:=List.pairwise_iff_getElem.1 (hstr i h9) k (k+1) (by rw [<-hsp i h];omega) (by rw [<-hsp i h];exact hk) (by omega);simpa only [hsp i h] using this
theorem tQ{w:AP}(hw:JE w){j:Nat}(hj:j<(BH ltP w.AJ.flatten).length):Rs (Lq (BH ltP w.AJ.flatten) j) (BH ltP w.AJ.flatten)[j]=Lq (BH ltP w.AJ.flatten) (j+1):=by
 have hpm:(BH ltP w.AJ.flatten)[j]∈w.AJ.flatten:=RS.1 (List.getElem_mem hj);obtain⟨k,hk,e⟩:=n0 (Sz (hw.pins _ hpm)).1.1;have hstr:(BH ltP w.AJ.flatten).Pairwise fun a b=>ltP b a=false:=RU Cx _
 have e2:(BH ltP w.AJ.flatten).take (j+1)=(BH ltP w.AJ.flatten).take j++[(BH ltP w.AJ.flatten)[j]]:=by rw [List.take_add_one,List.getElem?_eq_getElem hj];rfl
 generalize hS:BH ltP w.AJ.flatten=S at *;have hput:∀(q:AK->Bool),q S[j]=true->(∀b∈(S.take j).filter q,ltP b S[j]=true)->put ltP S[j] ((S.take j).filter q)=(S.take (j+1)).filter q:=by
  intro q hq hall;rw [gk hall,e2,List.filter_append];simp [hq]
 have hlt:∀b∈(S.take j).filter (EJ k),ltP b S[j]=true:=by
  intro b hb;have h9:k<w.AJ.length:=by rw [hw.nine];exact hk
  have h2:S.filter (EJ k)=w.AJ[k]:=by
   rw [<-hS,GS Cx,Oc hw h9];exact QJ Cx (IZ Cx (hw.srt k h9))
  have h3:((S.take (j+1)).filter (EJ k)).Pairwise fun a b=>ltP a b=true:=by
   refine List.Pairwise.sublist ((List.take_sublist _ _).filter _) ?_;rw [h2];exact IZ Cx (hw.srt k h9)
  rw [e2,List.filter_append] at h3;have h4:([S[j]]:List AK).filter (EJ k)=[S[j]]:=by simp [Fk.2 e]
  rw [h4] at h3;exact(List.pairwise_append.1 h3).2.2 b hb _ (List.mem_singleton.2 rfl)
 unfold Rs Lq;rw [e,Int.toNat_natCast];congr 1;apply List.ext_getElem
 .simp
 .intro i h1 h2;have hi:i<9:=by simpa using h2
  rw [List.getElem_set];have hD:(((List.range 9).map fun i=>(S.take j).filter (EJ i)).getD k [])=(S.take j).filter (EJ k):=by simp [List.getD,hk]
  split
  .rename_i hki;subst hki;rw [hD,hput _ (Fk.2 e) hlt];simp
  .rename_i hki;simp only [List.getElem_map,List.getElem_range];rw [e2,List.filter_append];have:([S[j]]:List AK).filter (EJ i)=[]:=by
    have hn:EJ i S[j]=false:=by
     cases h:EJ i S[j] with
     |false=>rfl
     |true=>rw [Fk,e] at h;omega
    simp [hn]
   rw [this,List.append_nil]
theorem Xh{w:AP}(hw:JE w):Fx (BH ltP w.AJ.flatten)=(w,true):=by
 have key:∀m j,j+m=(BH ltP w.AJ.flatten).length->Mu ((BH ltP w.AJ.flatten).drop j) (Lq (BH ltP w.AJ.flatten) j)=(w,true):=by
  intro m
  induction m with
  |zero=>
   intro j hj;rw [List.drop_eq_nil_of_le (by omega),Mu];unfold Lq;rw [List.take_of_length_le (by omega),<-Y7 hw]
  |succ m ih=>
   intro j hj;have hj':j<(BH ltP w.AJ.flatten).length:=by omega
   have hp:Lr (Lq (BH ltP w.AJ.flatten) j) (BH ltP w.AJ.flatten)[j]=(Lq (BH ltP w.AJ.flatten) (j+1),true):=by
    unfold Lr;rw [tQ hw hj',if_pos];exact⟨Co.2 (se hw j),hw.pins _ (RS.1 (List.getElem_mem hj')),Co.2 (se hw (j+1))⟩
   rw [CH hj',Mu,hp,if_pos rfl];exact ih (j+1) (by omega)
 have:=key (BH ltP w.AJ.flatten).length 0 (by omega);rw [List.drop_zero] at this;exact this
end Lv.P
namespace Lv.P
open Lv Go
def Good(h:AH)(l:List Int):Prop:=DH h=true/\Ba h/\DI h=l
def b0:AQ:=⟨[],0,0,0,0,0,0,0,0⟩
def KS:AH:=⟨b0,0,0,[],[],[],[]⟩
def Red(l:List Int)(r:AH×Bool):Prop:=(r.2=true->Good r.1 l/\∀h,Good h l->h=r.1)/\(r.2=false->r.1=KS/\∀h,¬Good h l)
theorem Red.one{l:List Int}{r r':AH×Bool}(h:Red l r)(h':Red l r'):r=r':=by
 obtain⟨g,b⟩:=r;obtain⟨g',b'⟩:=r';obtain⟨h1,h2⟩:=h;obtain⟨h3,h4⟩:=h';dsimp only at h1 h2 h3 h4;cases b <;> cases b'
 .rw [(h2 rfl).1,(h4 rfl).1]
 .exact((h2 rfl).2 _ (h3 rfl).1).elim
 .exact((h4 rfl).2 _ (h1 rfl).1).elim
 .rw [(h1 rfl).2 _ (h3 rfl).1]
theorem Red.bad{l:List Int}(h:∀h,¬Good h l):Red l (KS,false):=⟨fun h=>(by cases h),fun _=>⟨rfl,h⟩⟩
def fr(c:AU):Int:=c.AN.Cd
def up(x:Int):Int:=w64 (x+1)
theorem sJ(h:AH):DI h=((FJ h.AI).length:Int)::(FJ h.AI++(h.Now::h.Ai::(h.AF.length:Int)::(h.AF.flatMap GN++(h.AW.map fr++((h.BA.length:Int)::(h.BA++h.BO.map up)))))):=by
 have e1:∀l:List AU,l.flatMap (fun c=>[c.AN.Cd])=l.map fr:=fun l=>by rw [List.map_eq_flatMap];rfl
 have e2:∀l:List Int,l.flatMap (fun x=>[w64 (x+1)])=l.map up:=fun l=>by rw [List.map_eq_flatMap];rfl
 unfold DI;rw [e1,e2];simp only [List.append_assoc,List.cons_append,List.nil_append]
noncomputable def Ve(r:AQ)(ps:List AG)(now:Int)(i:Nat)(free:Int):AU:=
 ⟨⟨r.AN.getD i 0,free,QD ps i,w64 (w64 (r.AN.getD i 0-free)-QD ps i),Y1 ps i⟩,IK r ps i now,(Fx (Lh ps i)).1⟩
theorem xu{t:List Int}{n:Nat}(hn:n<=4)(h:KY t n=true):t.length<=n:=by
 by_cases hc:t.length<=n
 .exact hc
 .exfalso;have hall:∀k (hk:k<t.length),0<=t[k]/\t[k]<n/\∀j (hj:j<k),t[j]≠t[k]:=by
   intro k hk;have h1:=H5.1 h k hk;unfold Oe at h1;rw [Ay hk,Bool.and_eq_true,CL,AM (by omega) (by omega)] at h1;refine⟨h1.1.1,by omega,fun j hj e=>?_⟩;have h2:=h1.2;simp only [Bool.not_eq_true',List.any_eq_false,beq_iff_eq] at h2;refine h2 t[j] ?_ e;rw [List.mem_iff_getElem];exact⟨j,by rw [List.length_take];omega,by rw [List.getElem_take]⟩
  have h0:=hall 0 (by omega)
  match n,hn,hc,hall with
  |0,_,hc,hall=>have:=hall 0 (by omega);omega
  |1,_,hc,hall=>
   have a0:=hall 0 (by omega);have a1:=hall 1 (by omega);have:=a1.2.2 0 (by omega);omega
  |2,_,hc,hall=>
   have a0:=hall 0 (by omega);have a1:=hall 1 (by omega);have a2:=hall 2 (by omega);have:=a1.2.2 0 (by omega);have:=a2.2.2 0 (by omega);have:=a2.2.2 1 (by omega);omega
  |3,_,hc,hall=>
   have a0:=hall 0 (by omega);have a1:=hall 1 (by omega);have a2:=hall 2 (by omega);have a3:=hall 3 (by omega);have:=a1.2.2 0 (by omega);have:=a2.2.2 0 (by omega);have:=a2.2.2 1 (by omega);have:=a3.2.2 0 (by omega);have:=a3.2.2 1 (by omega);have:=a3.2.2 2 (by omega);omega
  |4,_,hc,hall=>
   have a0:=hall 0 (by omega);have a1:=hall 1 (by omega);have a2:=hall 2 (by omega);have a3:=hall 3 (by omega);have a4:=hall 4 (by omega);have:=a1.2.2 0 (by omega);have:=a2.2.2 0 (by omega);have:=a2.2.2 1 (by omega);have:=a3.2.2 0 (by omega);have:=a3.2.2 1 (by omega);have:=a3.2.2 2 (by omega);have:=a4.2.2 0 (by omega);have:=a4.2.2 1 (by omega);have:=a4.2.2 2 (by omega);have:=a4.2.2 3 (by omega);omega
structure AAv(h:AH):Prop where
 rules:CP h.AI=true
 HV:1<=h.AI.AN.length/\h.AI.AN.length<=4
 ABa:1<=h.AI.BL/\h.AI.BL<=3
 few:h.AF.length<=40
 par:∀i (hi:i<h.AF.length),Ed h.AI h.AF[i] h.Now=true
 SS:h.AW.length=h.AI.AN.length
 cab:∀i (hi:i<h.AW.length),h.AW[i]=Ve h.AI h.AF h.Now i (fr h.AW[i])/\0<=fr h.AW[i]/\fr h.AW[i]<=h.AI.AN.getD i 0/\EU h.AF i<=10
 todo:h.BA.length<=h.AI.AN.length
 yT:(h.BO.length:Int)=h.AI.BL
 job:∀x∈h.BO,-1<=x/\x<4
theorem az{w:AP}(hw:EF w=true):(Fx (HO w)).1=w:=by
 unfold HO;rw [if_pos hw,Xh (Co.1 hw)]
theorem Ke{h:AH}(hb:DH h=true):AAv h:=by
 obtain⟨h1,h2,h3,h4,h5,h6,h7,h8,h9,h10⟩:=Gg hb;have hr:=BZ h1;have hcrew:1<=h.AI.BL/\h.AI.BL<=3:=hr.2.2.2.2.2.2.2.2.2;refine⟨h1,hr.1,hcrew,h4,?_,h5,?_,?_,h9,?_⟩
 .intro i hi;have:=H5.1 h6 i hi;unfold Yh at this;rw [Ay hi,Bool.and_eq_true] at this;exact this.1
 .intro i hi;have hs:i<h.AI.AN.length:=by omega
  have hk:=H5.1 h10 i hi;unfold Xs at hk;rw [Ay hi,Ay hs] at hk;unfold GP Qw MR at hk;simp only [Bool.and_eq_true,beq_iff_eq,CL,Bool.not_eq_true',decide_eq_false_iff_not,Ma uZ,Ma ua] at hk;obtain⟨k1,⟨⟨⟨l1,l2,l3,l4,l5,l6⟩,k3,k4⟩,k5,k6,k7,k8⟩,k9⟩:=hk;have hD:h.AI.AN.getD i 0=h.AI.AN[i]:=by simp [List.getD,hs]
  have hroom:=hr.2.2.1;have hw:=az k4;rw [k6] at hw;unfold Ve fr;rw [hD,<-k5,<-k7,<-k8,<-k1,hw];generalize h.AW[i]=c at *;obtain⟨⟨t,f,hd,s,td⟩,row,wh⟩:=c;dsimp only at *;have e1:w64 (f+hd)=f+hd:=AM (by omega) (by omega);have e2:w64 (f+hd+s)=f+hd+s:=AM (by omega) (by omega);rw [e1,e2] at l5;have e3:w64 (t-f)=t-f:=AM (by omega) (by omega);have e4:w64 (t-f-hd)=t-f-hd:=AM (by omega) (by omega);rw [e3,e4];refine⟨?_,l2.1,l2.2,by omega⟩;congr 2;omega
 .have:=xu (by omega) h7;omega
 .intro x hx;have:=List.all_eq_true.1 h8 x hx;rw [CL,AM (by omega) (by omega)] at this;omega
def FM(l:List Int):AQ×Bool:=
 match l with
 |a::b::c::d::e::f::g::i::x::s=>if CP ⟨x::s,a,b,c,d,e,f,g,i⟩=true then (⟨x::s,a,b,c,d,e,f,g,i⟩,true) else (b0,false)
 |_=>(b0,false)
theorem W5{l:List Int}(h:(FM l).2=true):CP (FM l).1=true/\FJ (FM l).1=l:=by
 unfold FM at *;split at h
 .split at h
  .rename_i h1;rw [if_pos h1];exact⟨h1,rfl⟩
  .cases h
 .cases h
theorem GZ{r:AQ}(hb:CP r=true):FM (FJ r)=(r,true):=by
 have h1:=(BZ hb).1.1;obtain⟨s,a,b,c,d,e,f,g,i⟩:=r
 match s,h1 with
 |x::s,_=>
  show (if CP _=true then _ else _)=_;rw [if_pos hb]
theorem bZ{l:List Int}(hl:l.length<=1048576):mc l=some (FM l):=by
 unfold mc
 match l,hl with
 | [],_=>rfl
 | [_],_=>rfl
 | [_,_],_=>rfl
 | [_,_,_],_=>rfl
 | [_,_,_,_],_=>rfl
 | [_,_,_,_,_],_=>rfl
 | [_,_,_,_,_,_],_=>rfl
 | [_,_,_,_,_,_,_],_=>rfl
 | [_,_,_,_,_,_,_,_],_=>rfl
 |a::b::c::d::e::f::g::i::x::s,hl=>
  simp only [List.length_cons] at hl;have hs:(x::s).length<2 ^ 62:=by simp only [List.length_cons];omega
  rw [AT,if_neg (by simp only [List.length_cons];omega)];have e0:at? (a::b::c::d::e::f::g::i::x::s) 0=some a:=rfl;have e1:at? (a::b::c::d::e::f::g::i::x::s) 1=some b:=rfl;have e2:at? (a::b::c::d::e::f::g::i::x::s) 2=some c:=rfl;have e3:at? (a::b::c::d::e::f::g::i::x::s) 3=some d:=rfl;have e4:at? (a::b::c::d::e::f::g::i::x::s) 4=some e:=rfl;have e5:at? (a::b::c::d::e::f::g::i::x::s) 5=some f:=rfl;have e6:at? (a::b::c::d::e::f::g::i::x::s) 6=some g:=rfl;have e7:at? (a::b::c::d::e::f::g::i::x::s) 7=some i:=rfl;have e8:List.drop (Int.toNat 8) (a::b::c::d::e::f::g::i::x::s)=x::s:=rfl;have g1:(0:Int)<=8/\(8:Int)<=((a::b::c::d::e::f::g::i::x::s).length:Int):=by simp only [List.length_cons];omega
  have hlim:lim=268435456:=rfl;have g2:0+(x::s).length<=lim:=by simp only [List.length_cons];omega
  simp only [e0,e1,e2,e3,e4,e5,e6,e7,e8,AA,BE g1,BE g2,B0,U6,U7,U8,U9,VA,VB,VC,List.nil_append,FN (r:=⟨x::s,a,b,c,d,e,f,g,i⟩) hs,Ae];unfold FM;dsimp only;cases CP ⟨x::s,a,b,c,d,e,f,g,i⟩ <;> rfl
theorem aC{l:List Int}(hl:l.length<=1048576):mY l=some (FM l):=by
 unfold mY
 match l,hl with
 | [],_=>rfl
 | [_],_=>rfl
 | [_,_],_=>rfl
 | [_,_,_],_=>rfl
 | [_,_,_,_],_=>rfl
 | [_,_,_,_,_],_=>rfl
 | [_,_,_,_,_,_],_=>rfl
 | [_,_,_,_,_,_,_],_=>rfl
 | [_,_,_,_,_,_,_,_],_=>rfl
 |a::b::c::d::e::f::g::i::x::s,hl=>
  simp only [List.length_cons] at hl;have hs:(x::s).length<2 ^ 62:=by simp only [List.length_cons];omega
  rw [AT,if_neg (by simp only [List.length_cons];omega)];have e0:at? (a::b::c::d::e::f::g::i::x::s) 0=some a:=rfl;have e1:at? (a::b::c::d::e::f::g::i::x::s) 1=some b:=rfl;have e2:at? (a::b::c::d::e::f::g::i::x::s) 2=some c:=rfl;have e3:at? (a::b::c::d::e::f::g::i::x::s) 3=some d:=rfl;have e4:at? (a::b::c::d::e::f::g::i::x::s) 4=some e:=rfl;have e5:at? (a::b::c::d::e::f::g::i::x::s) 5=some f:=rfl;have e6:at? (a::b::c::d::e::f::g::i::x::s) 6=some g:=rfl;have e7:at? (a::b::c::d::e::f::g::i::x::s) 7=some i:=rfl;have e8:List.drop (Int.toNat 8) (a::b::c::d::e::f::g::i::x::s)=x::s:=rfl;have g1:(0:Int)<=8/\(8:Int)<=((a::b::c::d::e::f::g::i::x::s).length:Int):=by simp only [List.length_cons];omega
  have hc:Ua (x::s)=some (x::s):=kz (by simp only [List.length_cons];omega);simp only [e0,e1,e2,e3,e4,e5,e6,e7,e8,AA,BE g1,hc,B0,U6,U7,U8,U9,VA,VB,VC,DV (r:=⟨x::s,a,b,c,d,e,f,g,i⟩) hs,Ae];unfold FM;dsimp only;cases CP ⟨x::s,a,b,c,d,e,f,g,i⟩ <;> rfl
theorem uf(x y:Int):(x==y)=true↔x=y:=beq_iff_eq
theorem iL{a b:List Int}(hl:a.length<2 ^ 62):mg a b=some (D6 (·==·) a b):=by
 unfold mg;refine Rp (by omega) ?_ ?_
 .intro L i h h';unfold Ur;rw [AX h,Af,Ac h,AA,Ac h',AA];rfl
 .intro L;unfold Ur fT;rw [AY,Ag,AE]
theorem fw{a b:List Int}(hl:a.length<2 ^ 62):mb a b=some (D6 (·==·) a b):=by
 unfold mb;refine Rp (by omega) ?_ ?_
 .intro L i h h';unfold Ui;rw [AX h,Af,Ac h,AA,Ac h',AA];rfl
 .intro L;unfold Ui fP;rw [AY,Ag,AE]
end Lv.P
namespace Lv.P
open Lv Go
def rd(l:List Int)(k:Nat)(b:Bool):BD:=⟨l,(k:Int),b⟩
theorem aM{l:List Int}{k:Nat}{b:Bool}(hl:l.length<=1048576)(hk:k<=l.length) :
 ∃n k' b',R5 (rd l k b)=some (n,rd l k' b')/\k'<=l.length/\∀x rest,l.drop k=x::rest->n=x/\l.drop k'=rest/\b'=b:=by
 unfold R5;rw [AT];rcases Nat.lt_or_ge k l.length with h|h
 .rw [if_neg (show ¬((rd l k b).at_>=((rd l k b).LL.length:Int)) from by show ¬((k:Int)>=(l.length:Int));omega)];have e1:w64 ((k:Int)+1)=((k+1:Nat):Int):=Av h (by omega);have e2:w64 (((k+1:Nat):Int)-1)=(k:Int):=by rw [AM (by omega) (by omega)];omega
  show ∃n k' b',(bd (at? l (w64 (w64 ((k:Int)+1)-1))) fun x1=>some (x1,BD.mk l (w64 ((k:Int)+1)) b))=_/\_;rw [e1,e2,Ac h,AA];refine⟨_,k+1,b,rfl,by omega,fun x rest e=>?_⟩;rw [CH h] at e;cases e;exact⟨rfl,rfl,rfl⟩
 .rw [if_pos (show (rd l k b).at_>=((rd l k b).LL.length:Int) from by show (k:Int)>=(l.length:Int);omega)];refine⟨0,k,true,rfl,hk,fun x rest e=>?_⟩;rw [List.drop_eq_nil_of_le h] at e;cases e
theorem Sa{l:List Int}{k:Nat}{b:Bool}(hl:l.length<=1048576)(hk:k<=l.length){m:Int}(hm:0<=m) :
 ∃n k' b',R6 (rd l k b) m=some (n,rd l k' b')/\k'<=l.length/\0<=n/\n<=m/\∀x rest,l.drop k=x::rest->0<=x->x<=m->n=x/\l.drop k'=rest/\b'=b:=by
 obtain⟨n,k',b',h1,h2,h3⟩:=aM (b:=b) hl hk;unfold R6;rw [h1,AA,FV,AA,Ae];cases e:inB n 0 m with
 |true=>
  rw [CL] at e;exact⟨n,k',b',rfl,h2,e.1,e.2,fun x rest hx _ _=>h3 x rest hx⟩
 |false=>
  refine⟨0,k',true,rfl,h2,by omega,hm,fun x rest hx h0 h1=>?_⟩;obtain⟨q1,q2,q3⟩:=h3 x rest hx;have:inB n 0 m=true:=by rw [CL,q1];omega
  rw [e] at this;cases this
theorem aP{l:List Int}{k:Nat}{b:Bool}(hl:l.length<=1048576)(hk:k<=l.length){n:Nat}(hn:n<=1048576) :
 ∃xs k' b',R7 (rd l k b) (n:Int)=some (xs,rd l k' b')/\k'<=l.length/\xs.length=n/\∀ys rest,l.drop k=ys++rest->ys.length=n->xs=ys/\l.drop k'=rest/\b'=b:=by
 unfold R7;have key:=YP (F:=Up (n:Int)) (n:=n) (fun i (v:List Int×Nat×Bool)=>(v.1,(i:Int),rd l v.2.1 v.2.2))
  (fun i v=>v.1.length=i/\v.2.1<=l.length/\∀ys rest,l.drop k=ys++rest->ys.length=n->v.1=ys.take i/\l.drop v.2.1=ys.drop i++rest/\v.2.2=b)
  (fun r:List Int×BD=>∃k' b',r.2=rd l k' b'/\k'<=l.length/\r.1.length=n/\∀ys rest,l.drop k=ys++rest->ys.length=n->r.1=ys/\l.drop k'=rest/\b'=b) (by omega) ?_ (v:=([],k,b)) ⟨rfl,hk,fun ys rest h _=>⟨by simp,by simpa using h,rfl⟩⟩
 .obtain⟨r,hr,k',b',hr2,h1,h2,h3⟩:=key;exact⟨r.1,k',b',by rw [<-hr2];exact hr,h1,h2,h3⟩
 .rintro L i ⟨xs,q,c⟩ ⟨g1,g2,g3⟩ hi ih;dsimp only at g1 g2 g3 ih ⊢;unfold Up;dsimp only;rcases Nat.lt_or_ge i n with h|h
  .obtain⟨x,q',c',e1,e2,e3⟩:=aM (b:=c) hl g2;have hlim:lim=268435456:=rfl;rw [AX h,Af,e1,AA,BE (by rw [Er];omega),Av h (by omega)];refine ih (xs++[x],q',c') ⟨by simp [g1],e2,fun ys rest hy hn'=>?_⟩ h;obtain⟨p1,p2,p3⟩:=g3 ys rest hy hn';have hiy:i<ys.length:=by omega
   rw [CH hiy] at p2;obtain⟨u1,u2,u3⟩:=e3 _ _ p2;refine⟨?_,u2,u3.trans p3⟩;rw [p1,u1,List.take_add_one,List.getElem?_eq_getElem hiy];rfl
  .obtain rfl:i=n:=by omega
   rw [AY,Ag,AE];unfold fR;refine⟨_,rfl,q,c,rfl,g2,g1,fun ys rest hy hn'=>?_⟩;obtain⟨p1,p2,p3⟩:=g3 ys rest hy hn';refine⟨by rw [p1,List.take_of_length_le (by omega)],?_,p3⟩;rw [p2,List.drop_eq_nil_of_le (by omega)];rfl
theorem ten{α:Type}{l:List α}(h:l.length=10):∃a b c d e f g i j k,l=[a,b,c,d,e,f,g,i,j,k]:=by
 match l,h with
 | [a,b,c,d,e,f,g,i,j,k],_=>exact⟨a,b,c,d,e,f,g,i,j,k,rfl⟩
theorem vH{l:List Int}{k:Nat}{b:Bool}(hl:l.length<=1048576)(hk:k<=l.length) :
 ∃p k' b',me (rd l k b)=some (p,rd l k' b')/\k'<=l.length/\∀(q:AG) rest,l.drop k=GN q++rest -> -1<=q.CR->q.CR<=1048576->p=q/\l.drop k'=rest/\b'=b:=by
 obtain⟨xs,k',b',h1,h2,h3,h4⟩:=aP (b:=b) hl hk (n:=10) (by omega);obtain⟨a0,a1,a2,a3,a4,a5,a6,a7,a8,a9,rfl⟩:=ten h3;unfold me;rw [show (10:Int)=((10:Nat):Int) from rfl,h1,AA];have e0:at? [a0,a1,a2,a3,a4,a5,a6,a7,a8,a9] 0=some a0:=rfl;have e1:at? [a0,a1,a2,a3,a4,a5,a6,a7,a8,a9] 1=some a1:=rfl;have e2:at? [a0,a1,a2,a3,a4,a5,a6,a7,a8,a9] 2=some a2:=rfl;have e3:at? [a0,a1,a2,a3,a4,a5,a6,a7,a8,a9] 3=some a3:=rfl;have e4:at? [a0,a1,a2,a3,a4,a5,a6,a7,a8,a9] 4=some a4:=rfl;have e5:at? [a0,a1,a2,a3,a4,a5,a6,a7,a8,a9] 5=some a5:=rfl;have e6:at? [a0,a1,a2,a3,a4,a5,a6,a7,a8,a9] 6=some a6:=rfl;have e7:at? [a0,a1,a2,a3,a4,a5,a6,a7,a8,a9] 7=some a7:=rfl;have e8:at? [a0,a1,a2,a3,a4,a5,a6,a7,a8,a9] 8=some a8:=rfl;have e9:at? [a0,a1,a2,a3,a4,a5,a6,a7,a8,a9] 9=some a9:=rfl;simp only [e0,e1,e2,e3,e4,e5,e6,e7,e8,e9,AA,VU];refine⟨_,k',b',rfl,h2,fun q rest hq hf hf2=>?_⟩;obtain⟨p1,p2,p3⟩:=h4 (GN q) rest hq rfl;refine⟨?_,p2,p3⟩;unfold GN at p1;simp only [List.cons.injEq,and_true] at p1;obtain⟨q0,q1,q2,q3,q4,q5,q6,q7,q8,q9⟩:=p1;rw [AM (by omega) (by omega)] at q2;have hfrom:w64 ((if a2>0 then a2 else 0)-1)=q.CR:=by
  rw [AM (by split <;> omega) (by split <;> omega)];split <;> omega
 rw [hfrom,q0,q1,q3,q4,q5,q6,q7,q8,q9]
def tl4(g:AH):List Int:=(g.BA.length:Int)::(g.BA++g.BO.map up)
def tl3(g:AH)(i:Nat):List Int:=(g.AW.drop i).map fr++tl4 g
def tl2(g:AH)(i:Nat):List Int:=(g.AF.drop i).flatMap GN++tl3 g 0
theorem YV{g:AH}{l:List Int}(h:Good g l):l=((FJ g.AI).length:Int)::(FJ g.AI++(g.Now::g.Ai::(g.AF.length:Int)::tl2 g 0)):=by
 rw [<-h.2.2,sJ];simp only [tl2,tl3,tl4,List.drop_zero]
def Hd(g:AH)(R:AQ)(now turn:Int):Prop:=g.AI=R/\g.Now=now/\g.Ai=turn
theorem YX{h:AH}{R:AQ}(hR:h.AI=R):AH.mk (AQ.mk R.AN R.A2 R.Room R.Aq R.Au R.As R.Rest R.A3 R.BL) h.Now h.Ai h.AF h.AW h.BA h.BO=h:=by
 subst hR;rfl
theorem Qd{a b:List Int}:D6 (·==·) a b=true↔a=b:=Ma uf
def jb(j:Int):Int:=w64 ((if j > -5 then j else -5)-1)
theorem yP{x:Int}(h:-1<=x)(h2:x<4):jb (up x)=x:=by
 unfold jb up;rw [AM (n:=x+1) (by omega) (by omega),if_pos (by omega),AM (by omega) (by omega)];omega
section spec
variable{l:List Int}(hl:l.length<=1048576){R:AQ×Bool}{now turn:Int}
include hl
theorem yZ{x:List Int×BD}{h:AH}(hR:h.AI=R.1)(hh:Ba h)(ha:∀g,Good g l->g=h/\x.2.cH=false) :
 ∃r,K4 l R x ((),R.1.A2,R.1.Room,R.1.Aq,R.1.Au,R.1.As,R.1.Rest,R.1.A3,R.1.BL,h.Now,h.Ai,h.AF,h.AW,h.BA,h.BO)=some r/\Red l r:=by
 unfold K4 Pl;dsimp only;rw [YX hR];cases hb:x.2.cH with
 |true=>
  rw [Af,AE,Af];exact⟨_,rfl,Red.bad fun g hg=>by have:=(ha g hg).2;rw [hb] at this;cases this⟩
 |false=>
  rw [Ag,KL hh,AA,Ae];cases hB:DH h with
  |false=>
   rw [Ag,AE,Af];exact⟨_,rfl,Red.bad fun g hg=>by rw [(ha g hg).1] at hg;rw [hg.1] at hB;cases hB⟩
  |true=>
   have hnl:=MT hh hB;rw [Af,Yu hh hB,AA,iL (by omega),AA,AE,Ae];cases hs:D6 (·==·) (DI h) l with
   |true=>
    rw [Af];exact⟨_,rfl,fun _=>⟨⟨hB,hh,Qd.1 hs⟩,fun g hg=>(ha g hg).1⟩,fun hc=>by cases hc⟩
   |false=>
    rw [Ag];refine⟨_,rfl,Red.bad fun g hg=>?_⟩;rw [(ha g hg).1] at hg;rw [Qd.2 hg.2.2] at hs;cases hs
theorem yc{x:List Int×BD}{ps:List AG}{cs:List AU}{td:List Int}(hx:x.1.length<=1048576) :
 AR (Uw l R x) big (0,(),R.1.A2,R.1.Room,R.1.Aq,R.1.Au,R.1.As,R.1.Rest,R.1.A3,R.1.BL,now,turn,ps,cs,td,[]) =
  K4 l R x ((),R.1.A2,R.1.Room,R.1.Aq,R.1.Au,R.1.As,R.1.Rest,R.1.A3,R.1.BL,now,turn,ps,cs,td,x.1.map jb):=by
 refine Bz (n:=x.1.length) (fun i (v:List Int)=>((i:Int),(),R.1.A2,R.1.Room,R.1.Aq,R.1.Au,R.1.As,R.1.Rest,R.1.A3,R.1.BL,now,turn,ps,cs,td,v)) (fun i v=>v=(x.1.take i).map jb)
  (fun _ _=>K4 l R x ((),R.1.A2,R.1.Room,R.1.Aq,R.1.Au,R.1.As,R.1.Rest,R.1.A3,R.1.BL,now,turn,ps,cs,td,x.1.map jb)) (by omega) ?_ (v:=[]) (by simp)
 intro L i v hv hi ih;unfold Uw;dsimp only;rcases Nat.lt_or_ge i x.1.length with h|h
 .have hlim:lim=268435456:=rfl;have hvl:v.length<=1048576:=by rw [hv,List.length_map,List.length_take];omega
  simp only [AX h,Af,Ac h,AA,VU,Av h (by omega:x.1.length<2 ^ 63)];rw [BE (by rw [Er];omega)];refine ih _ ?_ h;rw [hv,List.take_add_one,List.getElem?_eq_getElem h,List.map_append];rfl
 .obtain rfl:i=x.1.length:=by omega
  rw [AY,Ag,AE,hv,List.take_length]
theorem yY(hr:CP R.1=true){ps:List AG}{cs:List AU}{k:Nat}{b:Bool}(hk:k<=l.length)(hps:ps.length<=1048576)(hcs:cs.length<=1048576)(hcf:∀c∈cs,Di c)
 (ha:∀g,Good g l->Hd g R.1 now turn/\g.AF=ps/\g.AW=cs/\l.drop k=tl4 g/\b=false) :
 ∃r,Uu l R ((),R.1.A2,R.1.Room,R.1.Aq,R.1.Au,R.1.As,R.1.Rest,R.1.A3,R.1.BL,now,turn,ps,cs,[],[],rd l k b)=some r/\Red l r:=by
 have hrl:=BZ hr;have hcrew:=hrl.2.2.2.2.2.2.2.2.2;unfold Uu;dsimp only;obtain⟨nt,k1,b1,e1,e2,e3,e4,e5⟩:=Sa (b:=b) hl hk (m:=(R.1.AN.length:Int)) (by omega);obtain⟨n,rfl⟩:=Int.eq_ofNat_of_zero_le e3;obtain⟨td,k2,b2,f1,f2,f3,f4⟩:=aP (b:=b1) hl e2 (n:=n) (by omega);obtain⟨c,hc⟩:=Int.eq_ofNat_of_zero_le (show 0<=R.1.BL by omega);obtain⟨js,k3,b3,g1,g2,g3,g4⟩:=aP (b:=b2) hl f2 (n:=c) (by omega);rw [e1,AA];dsimp only;rw [f1,AA];dsimp only;have g1':R7 (rd l k2 b2) R.1.BL=some (js,rd l k3 b3):=by rw [hc];exact g1
 rw [g1',AA];rw [yc hl (by dsimp only;omega)];refine yZ hl (h:=⟨R.1,now,turn,ps,cs,td,js.map jb⟩) rfl ⟨by dsimp only;omega,hps,hcs,hcf,by dsimp only;omega,by dsimp only;rw [List.length_map];omega⟩ ?_;intro g hg;obtain⟨⟨q1,q2,q3⟩,q4,q5,q6,q7⟩:=ha g hg;have hrt:=Ke hg.1;obtain⟨u1,u2,u3⟩:=e5 _ _ q6 (by omega) (by have:=hrt.todo;rw [q1] at this;omega);obtain⟨v1,v2,v3⟩:=f4 _ _ u2 (by omega);obtain⟨w1,w2,w3⟩:=g4 (g.BO.map up) [] (by rw [v2,List.append_nil]) (by rw [List.length_map];have:=hrt.yT;rw [q1,hc] at this;omega);have hj:js.map jb=g.BO:=by
  rw [w1,List.map_map]
  conv=>rhs;rw [<-List.map_id g.BO]
  apply List.map_congr_left;intro y hy;have:=hrt.job y hy;exact yP this.1 this.2
 refine⟨?_,by dsimp only [rd];rw [w3,v3,u3,q7]⟩;rw [hj,v1];cases g;dsimp only at *;rw [q1,q2,q3,q4,q5]
theorem yb(hr:CP R.1=true){ps:List AG}{k:Nat}{b:Bool}(hk:k<=l.length)(hps:ps.length<=40)
 (ha:∀g,Good g l->Hd g R.1 now turn/\g.AF=ps/\l.drop k=tl3 g 0/\b=false) :
 ∃r,Ut l R ((),R.1.A2,R.1.Room,R.1.Aq,R.1.Au,R.1.As,R.1.Rest,R.1.A3,R.1.BL,now,turn,ps,[],[],[],rd l k b)=some r/\Red l r:=by
 have hrl:=BZ hr;unfold Ut;dsimp only;refine YP (n:=R.1.AN.length) (fun i (v:List AU×Nat×Bool)=>((i:Int),(),R.1.A2,R.1.Room,R.1.Aq,R.1.Au,R.1.As,R.1.Rest,R.1.A3,R.1.BL,now,turn,ps,v.1,[],[],rd l v.2.1 v.2.2))
  (fun i v=>v.1.length=i/\(∀c∈v.1,Di c)/\v.2.1<=l.length/\∀g,Good g l->Hd g R.1 now turn/\g.AF=ps/\v.1=g.AW.take i/\l.drop v.2.1=tl3 g i/\v.2.2=false)
  (Red l) (by omega) ?_ (v:=([],k,b)) ⟨rfl,by simp,hk,fun g hg=>by obtain⟨h1,h2,h3,h4⟩:=ha g hg;exact⟨h1,h2,by simp,h3,h4⟩⟩
 rintro L i ⟨cs,q,c⟩ ⟨g1,gf,g2,g3⟩ hi ih;dsimp only at g1 gf g2 g3 ih ⊢;unfold fU;dsimp only;rcases Nat.lt_or_ge i R.1.AN.length with h|h
 .have hseat:=hrl.2.2.2.2.2.1 _ (List.getElem_mem h);have hD:R.1.AN.getD i 0=R.1.AN[i]:=by simp [List.getD,h]
  obtain⟨fr',q',c',e1,e2,e3,e4,e5⟩:=Sa (b:=c) hl g2 (m:=R.1.AN[i]) (by omega);have hpl:(Lh ps (i:Int)).length<=1048576:=by
   unfold Lh;rw [Gi];have:=List.length_filterMap_le (QX (i:Int)) ps;omega
  have hlim:lim=268435456:=rfl;rw [AX h,Af,Ac h];simp only [AA,e1,SM (show ps.length<=1048576 by omega),bc hpl,SL (show ps.length<2 ^ 58 by omega),SN (show ps.length<2 ^ 58 by omega),B0,U6,U7,U8,U9,VA,VB,VC,Qi (r:=R.1) (show R.1.AN.length<2 ^ 62 by omega) (show ps.length<=1048576 by omega)];rw [BE (by rw [Er];omega),Av h (by omega)];have hcab:AU.mk (BX.mk R.1.AN[i] fr' (QD ps i) (w64 (w64 (R.1.AN[i]-fr')-QD ps i)) (Y1 ps i)) (IK R.1 ps i now) (Fx (Lh ps i)).1=Ve R.1 ps now i fr':=by unfold Ve;rw [hD]
  rw [hcab];refine ih (cs++[Ve R.1 ps now i fr'],q',c') ⟨by simp [g1],?_,e2,fun g hg=>?_⟩ h
  .intro x hx;rcases List.mem_append.1 hx with hx|hx
   .exact gf x hx
   .rw [List.mem_singleton.1 hx];refine⟨?_,SR _⟩;unfold Ve IK;dsimp only;rw [Gi];have:=List.length_filterMap_le (OX R.1 (i:Int) now) ps;omega
  .obtain⟨⟨p1,p2,p3⟩,p4,p5,p6,p7⟩:=g3 g hg;have hrt:=Ke hg.1;have hic:i<g.AW.length:=by rw [hrt.SS,p1];exact h
   obtain⟨w1,w2,w3,w4⟩:=hrt.cab i hic;unfold tl3 at p6;rw [CH hic,List.map_cons] at p6;obtain⟨u1,u2,u3⟩:=e5 _ _ p6 w2 (by rw [p1,hD] at w3;exact w3);refine⟨⟨p1,p2,p3⟩,p4,?_,u2,u3.trans p7⟩;rw [List.take_add_one,List.getElem?_eq_getElem hic,p5,u1];rw [p1,p4,p2] at w1
   conv=>rhs;rw [w1]
   rfl
 .obtain rfl:i=R.1.AN.length:=by omega
  rw [AY,Ag,AE];refine yY hl hr g2 (by omega) (by omega) gf fun g hg=>?_
  obtain⟨p1,p4,p5,p6,p7⟩:=g3 g hg;have hrt:=Ke hg.1;have hn:g.AW.length=R.1.AN.length:=by rw [hrt.SS,p1.1]
  refine⟨p1,p4,?_,?_,p7⟩
  .rw [p5,List.take_of_length_le (by omega)]
  .rw [p6];unfold tl3;rw [List.drop_eq_nil_of_le (by omega)];rfl
theorem ya(hr:CP R.1=true){n:Int}{x:Int×BD}(hx:x.1=n)(hn0:0<=n)(hn:n<=40){k:Nat}{b:Bool}(hk:k<=l.length)
 (ha:∀g,Good g l->Hd g R.1 now turn/\(g.AF.length:Int)=n/\l.drop k=tl2 g 0/\b=false) :
 ∃r,AR (Uv l R x) big (0,(),R.1.A2,R.1.Room,R.1.Aq,R.1.Au,R.1.As,R.1.Rest,R.1.A3,R.1.BL,now,turn,[],[],[],[],rd l k b)=some r/\Red l r:=by
 have hrl:=BZ hr;obtain⟨m,rfl⟩:=Int.eq_ofNat_of_zero_le hn0;refine YP (n:=m) (fun i (v:List AG×Nat×Bool)=>((i:Int),(),R.1.A2,R.1.Room,R.1.Aq,R.1.Au,R.1.As,R.1.Rest,R.1.A3,R.1.BL,now,turn,v.1,[],[],[],rd l v.2.1 v.2.2))
  (fun i v=>v.1.length=i/\v.2.1<=l.length/\∀g,Good g l->Hd g R.1 now turn/\g.AF.length=m/\v.1=g.AF.take i/\l.drop v.2.1=tl2 g i/\v.2.2=false)
  (Red l) (by omega) ?_ (v:=([],k,b)) ⟨rfl,hk,fun g hg=>by obtain⟨h1,h2,h3,h4⟩:=ha g hg;exact⟨h1,by omega,by simp,h3,h4⟩⟩
 rintro L i ⟨ps,q,c⟩ ⟨g1,g2,g3⟩ hi ih;dsimp only at g1 g2 g3 ih ⊢;unfold Uv;dsimp only;rw [hx];rcases Nat.lt_or_ge i m with h|h
 .obtain⟨p,q',c',e1,e2,e3⟩:=vH (b:=c) hl g2;rw [AX h,Af,e1,AA];dsimp only;rw [KM (by omega),AA,Ae];have hag:∀g,Good g l->p=g.AF.getD i ⟨0,0,0,0,0,0,0,0,0,0⟩/\i<g.AF.length/\l.drop q'=tl2 g (i+1)/\c'=false:=by
   intro g hg;obtain⟨p1,p2,p3,p4,p5⟩:=g3 g hg;have hip:i<g.AF.length:=by omega
   have hpo:=MX ((Ke hg.1).par i hip);have hs:=(BZ hpo.1).1;unfold tl2 at p4;rw [CH hip,List.flatMap_cons,List.append_assoc] at p4;obtain⟨u1,u2,u3⟩:=e3 _ _ p4 hpo.2.2.2.2.1.1 (by omega);refine⟨?_,hip,u2,u3.trans p5⟩;rw [u1];simp [List.getD,hip]
  cases hp:Ed R.1 p now with
  |true=>
   have hlim:lim=268435456:=rfl;rw [Af,BE (by rw [Er];omega),Av h (by omega)];refine ih (ps++[p],q',c') ⟨by simp [g1],e2,fun g hg=>?_⟩ h;obtain⟨p1,p2,p3,p4,p5⟩:=g3 g hg;obtain⟨u1,u2,u3,u4⟩:=hag g hg;refine⟨p1,p2,?_,u3,u4⟩;rw [List.take_add_one,List.getElem?_eq_getElem u2,p3,u1];simp [List.getD,u2]
  |false=>
   rw [Ag];refine⟨_,rfl,Red.bad fun g hg=>?_⟩;obtain⟨p1,p2,p3,p4,p5⟩:=g3 g hg;obtain⟨u1,u2,u3,u4⟩:=hag g hg;have:=(Ke hg.1).par i u2;rw [u1] at hp;have e:g.AF.getD i ⟨0,0,0,0,0,0,0,0,0,0⟩=g.AF[i]:=by simp [List.getD,u2]
   rw [e,<-p1.1,<-p1.2.1,this] at hp;cases hp
 .obtain rfl:i=m:=by omega
  rw [AY,Ag,AE];refine yb hl hr g2 (by omega) fun g hg=>?_
  obtain⟨p1,p2,p3,p4,p5⟩:=g3 g hg;refine⟨p1,?_,?_,p5⟩
  .rw [p3,List.take_of_length_le (by omega)]
  .rw [p4];unfold tl2;rw [List.drop_eq_nil_of_le (by omega)];rfl
end spec
theorem bW{l:List Int}(hl:l.length<=1048576):∃r,YG l=some r/\Red l r:=by
 unfold YG;obtain⟨sz,k1,b1,a1,a2,a3,a4,a5⟩:=Sa (l:=l) (k:=0) (b:=false) hl (Nat.zero_le _) (m:=12) (by omega);obtain⟨s,rfl⟩:=Int.eq_ofNat_of_zero_le a3;obtain⟨xs,k2,b2,c1,c2,c3,c4⟩:=aP (b:=b1) hl a2 (n:=s) (by omega);have a1':R6 (BD.mk l 0 false) 12=some ((s:Int),rd l k1 b1):=a1;rw [a1',AA];dsimp only;rw [c1,AA];dsimp only;rw [bZ (by omega),AA,Ae];have hag:∀g,Good g l->xs=FJ g.AI/\l.drop k2=g.Now::g.Ai::(g.AF.length:Int)::tl2 g 0/\b2=false:=by
  intro g hg;have hn:=YV hg;have hlen:=I5 g.AI;have hrt:=Ke hg.1;obtain⟨u1,u2,u3⟩:=a5 _ _ (by rw [List.drop_zero];exact hn) (by omega) (by have:=hrt.HV;omega);obtain⟨v1,v2,v3⟩:=c4 _ _ u2 (by omega);exact⟨v1,v2,v3.trans u3⟩
 cases hR:(FM xs).2 with
 |false=>
  rw [Ag];refine⟨_,rfl,Red.bad fun g hg=>?_⟩;rw [(hag g hg).1,GZ (Ke hg.1).rules] at hR;cases hR
 |true=>
  rw [Af];have hrb:=(W5 hR).1;obtain⟨n1,k3,b3,d1,d2,d3⟩:=aM (b:=b2) hl c2;obtain⟨n2,k4,b4,f1,f2,f3⟩:=aM (b:=b3) hl d2;obtain⟨n3,k5,b5,g1,g2,g3,g4,g5⟩:=Sa (b:=b4) hl f2 (m:=40) (by omega);simp only [d1,AA,B0,U6,U7,U8,U9,VA,VB,VC,bz,f1,g1];refine ya hl hrb (now:=n1) (turn:=n2) rfl g3 g4 g2 fun g hg=>?_
  obtain⟨q1,q2,q3⟩:=hag g hg;have hrt:=Ke hg.1;obtain⟨u1,u2,u3⟩:=d3 _ _ q2;obtain⟨v1,v2,v3⟩:=f3 _ _ u2;obtain⟨w1,w2,w3⟩:=g5 _ _ v2 (by omega) (by have:=hrt.few;omega);refine⟨⟨?_,u1.symm,v1.symm⟩,w1.symm,w2,by rw [w3,v3,u3,q3]⟩;rw [q1,GZ hrt.rules]
end Lv.P
