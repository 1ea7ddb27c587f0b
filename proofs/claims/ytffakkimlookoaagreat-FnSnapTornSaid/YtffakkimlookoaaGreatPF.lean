/-
  Plain laws: a pin is put into a wheel; the wheel of a row of pins.
-/
import Derived.Test.YtffakkimlookoaaGreatKD
import Derived.Test.YtffakkimlookoaaGreatPE
import Derived.Test.YtffakkimlookoaaGreatPC
set_option linter.unusedVariables false
set_option linter.unusedSimpArgs false
set_option linter.unusedSectionVars false
namespace Lv.P
open Lv Go
def QP(w:AK)(p:AN):AK:=⟨w.AJ.set (p.At.tmod 9).toNat (put ltP p (w.AJ.getD (p.At.tmod 9).toNat []))⟩
noncomputable def IW(w:AK)(p:AN):AK×Bool:=if DY w=true/\RL p=true/\DY (QP w p)=true then (QP w p,true) else (w,false)
theorem Sn{p:AN}(h:RL p=true):(1<=p.At/\p.At<=1000008)/\1<=p.Id/\p.Id<=999:=by
 unfold RL at h;simpa only [Bool.and_eq_true,Bp] using h
theorem oC{n:Int}(h:1<=n):∃k:Nat,k<9/\n.tmod 9=(k:Int):=by
 obtain⟨m,rfl⟩:=Int.eq_ofNat_of_zero_le (show 0<=n by omega);refine⟨m % 9,Nat.mod_lt _ (by omega),?_⟩;rw [Int.tmod_eq_emod_of_nonneg (by omega)];rfl
theorem fb{α:Type}{l:List (List α)}{k:Nat}(h:k<l.length)(x:List α):(l.set k x).flatten.length+l[k].length=l.flatten.length+x.length:=by
 rw [List.set_eq_take_append_cons_drop,if_pos h]
 conv=>rhs;rw [<-List.take_append_drop k l,List.drop_eq_getElem_cons h]
 simp only [List.flatten_append,List.flatten_cons,List.length_append];omega
theorem vY{α:Type}{l:List (List α)}{k:Nat}(h:k<l.length){x:List α}{a:α}(ha:a∈x):a∈(l.set k x).flatten:=by
 rw [List.mem_flatten];exact⟨x,List.mem_set h _,ha⟩
theorem XN{w:AK}(hw:JS w){p:AN}(hp:1<=p.At):BU (QP w p)/\p∈(QP w p).AJ.flatten:=by
 obtain⟨k,hk,e⟩:=oC hp;have h9:=hw.nine;have hf:=hw.few;unfold QP;rw [e,Int.toNat_natCast];have hk':k<w.AJ.length:=by omega
 have h1:=fb hk' (put ltP p (w.AJ.getD k []));have h2:w.AJ.getD k []=w.AJ[k]:=by simp [List.getD,hk']
 rw [h2,C6] at h1;refine⟨⟨by dsimp only;rw [List.length_set];omega,by dsimp only;rw [h2];omega⟩,vY hk' (Sp.2 (.inl rfl))⟩
theorem IT{w:AK}(hw:BU w)(p:AN):UH w p=some (IW w p):=by
 unfold UH UI;rw [Xt hw,AA,E3 hw,AA,Ai];by_cases hB:DY w=true
 .have hP:=CV.1 hB;rw [hB,Ab,AG,AV];by_cases hp:p.At<1
  .rw [if_pos hp];unfold IW;rw [if_neg];rintro⟨_,h2,_⟩;have:=Sn h2;omega
  .rw [if_neg hp];obtain⟨hf,hm⟩:=XN hP (p:=p) (by omega);obtain⟨k,hk,e⟩:=oC (n:=p.At) (by omega);have h9:=hP.nine;have hfw:=hP.few;have hk':k<w.AJ.length:=by omega
   have h2:w.AJ.getD k []=w.AJ[k]:=by simp [List.getD,hk']
   have hsl:=Ge hk';have hws:(AK.mk (w.AJ.set k (put ltP p w.AJ[k])))=QP w p:=by unfold QP;rw [e,Int.toNat_natCast,h2]
   simp only [e,AX hk',AA,OW (l:=w.AJ[k]) (by unfold lim;omega) p,Int.toNat_natCast,hws,E3 hf,Xt hw,Ai];unfold IW;cases hB2:DY (QP w p) with
   |false=>rw [Ad,if_neg (by simp)]
   |true=>
    rw [Ab,if_pos ⟨hB,(CV.1 hB2).pins p hm,rfl⟩]
 .have hB:DY w=false:=by simpa using hB
  rw [hB,Ad,AG,Ab];unfold IW;rw [hB,if_neg (by simp)]
theorem XV{w:AK}(hw:BU w)(p:AN):mf w p=some (IW w p):=by
 unfold mf UO;rw [Xs hw,AA,GM hw,AA,Ai];by_cases hB:DY w=true
 .have hP:=CV.1 hB;rw [hB,Ab,VI,AA,AG,Ai];cases hp:RL p with
  |false=>
   rw [Ad];unfold IW;rw [hp,if_neg (by simp)]
  |true=>
   have hp1:=(Sn hp).1.1;rw [Ab];obtain⟨hf,hm⟩:=XN hP hp1;obtain⟨k,hk,e⟩:=oC hp1;have h9:=hP.nine;have hfw:=hP.few;have hk':k<w.AJ.length:=by omega
   have h2:w.AJ.getD k []=w.AJ[k]:=by simp [List.getD,hk']
   have hsl:=Ge hk';have hws:(AK.mk (w.AJ.set k (put ltP p w.AJ[k])))=QP w p:=by unfold QP;rw [e,Int.toNat_natCast,h2]
   have hj4:∀i:Nat,i<=w.AJ[k].length->∀s:List AN,s=w.AJ[k].take i++p::w.AJ[k].drop i->UP w p w w.AJ[k] (i:Int)=(bd (Oz (AK.mk (w.AJ.set k s))) fun x=>br (!x) (some (w,false)) (some (AK.mk (w.AJ.set k s),true))):=by
    intro i hi s hs;have hins:wD w.AJ[k] (i:Int) [p]=@some (C.l (.st 5)).D s:=by
     show o6 (.st 5) w.AJ[k] (i:Int) [p]=some s;have hc:(0:Int)<=i/\(i:Int).toNat<=w.AJ[k].length/\[p]≠([]:List AN)/\w.AJ[k].length+[p].length<=lim:=⟨by omega,by simpa using hi,by simp,by rw [DC];unfold lim;omega⟩;unfold o6;refine(if_pos hc).trans ?_;rw [hs,Int.toNat_natCast];congr 1;exact List.append_assoc _ _ _
    unfold UP;have hh:Y.Jq k 0 [U.sl (C.st 5) s].length [(k,0)]:=⟨rfl,⟨Nat.le_refl _,by simp⟩,trivial⟩;rw [hins];refine(AA (α:=List AN) s _).trans ?_;simp only [e,AX hk',AA,Int.toNat_natCast,A1 hh,Xs hw]
   simp only [e,AX hk',AA];have hloop:=Wp (lt:=ltP) (F:=PT w p w w.AJ[k]) (l:=w.AJ[k]) (x:=p) (fun s=>bd (Oz (AK.mk (w.AJ.set k s))) fun x=>br (!x) (some (w,false)) (some (AK.mk (w.AJ.set k s),true))) (by omega) ?_ ?_
   .rw [hloop,hws,GM hf,AA,Ai];unfold IW;cases hB2:DY (QP w p) with
    |false=>rw [Ad,if_neg (by simp)]
    |true=>rw [Ab,if_pos ⟨hB,hp,rfl⟩]
   .intro L i hi;unfold PT PS;obtain⟨c,hc,hc2,_⟩:=EV w.AJ[k][i] p;rw [Ac hi,Ab,AX hi,AA,hc,AA,AG,hc2,AG,hj4 i (by omega) _ rfl]
   .intro L;unfold PT PS;rw [Ae,Ad,AG,Ad,AG,hj4 _ (Nat.le_refl _) (w.AJ[k]++[p]) (by simp)]
 .have hB:DY w=false:=by simpa using hB
  rw [hB,Ad,AG,Ab];unfold IW;rw [hB,if_neg (by simp)]
theorem QO{w:AK}(hw:BU w)(p:AN):BU (IW w p).1:=by
 unfold IW;split
 .rename_i h;exact(XN (CV.1 h.1) (Sn h.2.1).1.1).1
 .exact hw
noncomputable def NR:List AN->AK->AK×Bool
 | [],w=>(w,true)
 |p::ps,w=>if (IW w p).2=true then NR ps (IW w p).1 else (⟨[]⟩,false)
noncomputable def Fj(l:List AN):AK×Bool:=NR l ⟨List.replicate 9 []⟩
theorem KH:BU ⟨List.replicate 9 []⟩:=by constructor <;> simp
theorem Ys{l:List AN}{F:(Int×AK->Option (AK×Bool))->Int×AK->Option (AK×Bool)}(hl:l.length<2 ^ 62)
 (step:∀L (i:Nat) (h:i<l.length) w,BU w->F L ((i:Int),w)=br (!(IW w l[i]).2) (some (⟨[]⟩,false)) (L (w64 ((i:Int)+1),(IW w l[i]).1)))
 (stop:∀L w,F L ((l.length:Int),w)=some (w,true)):AT F big (0,⟨List.replicate 9 []⟩)=some (Fj l):=by
 refine(Bz (n:=l.length) (fun i (w:AK)=>((i:Int),w)) (fun _ w=>BU w) (fun i w=>some (NR (l.drop i) w)) (by omega) ?_ (v:=⟨List.replicate 9 []⟩) KH).trans (by simp [Fj]);intro L i w hw hi ih;rcases Nat.lt_or_ge i l.length with h|h
 .rw [step L i h w hw,Ag h (by omega),Cr h,NR,Ai];cases e:(IW w l[i]).2 with
  |true=>rw [Ab,ih _ (QO hw _) h];rfl
  |false=>rfl
 .obtain rfl:i=l.length:=by omega
  rw [stop];simp [NR]
theorem bQ{l:List AN}(hl:l.length<=1048576):ml l=some (Fj l):=by
 unfold ml;rw [J3,AA];refine Ys (by omega) ?_ ?_
 .intro L i h w hw;unfold UZ;dsimp only;rw [Ac h,Ab,AX h,AA,IT hw,AA,AA,Bj,Bj]
 .intro L w;unfold UZ fE;dsimp only;rw [Ae,Ad,AG]
theorem Z4{l:List AN}(hl:l.length<=1048576):mg l=some (Fj l):=by
 unfold mg;rw [jv,AA];refine Ys (by omega) ?_ ?_
 .intro L i h w hw;unfold UQ;dsimp only;rw [Ac h,Ab,AX h,AA,XV hw,AA]
 .intro L w;unfold UQ fA;dsimp only;rw [Ae,Ad,AG]
theorem Yt:∀(l:List AN) {w:AK},BU w->BU (NR l w).1
 | [],w,hw=>hw
 |p::ps,w,hw=>by
  unfold NR;split
  .exact Yt ps (QO hw p)
  .constructor <;> simp
theorem SE(l:List AN):BU (Fj l).1:=Yt l KH
end Lv.P
namespace Lv.P
open Lv Go
section
variable{α:Type}{lt:α->α->Bool}
theorem OJ(a:α)(l:List α):BS lt (a::l)=put lt a (BS lt l):=rfl
theorem gj{a:α}{l:List α}(h:∀b∈l,lt b a=false):put lt a l=a::l:=by
 cases l with
 |nil=>rfl
 |cons z l=>rw [put,if_neg (by rw [h z (List.mem_cons_self ..)];simp)]
theorem gk{a:α}:∀{l:List α},(∀b∈l,lt b a=true)->put lt a l=l++[a]
 | [],_=>rfl
 |z::l,h=>by
  rw [put,if_pos (h z (List.mem_cons_self ..)),gk fun b hb=>h b (List.mem_cons_of_mem _ hb)];rfl
theorem Yj(h:Swo lt){a z:α}{l:List α}(hs:Srt lt (z::l))(hz:lt z a=false):∀b∈z::l,lt b a=false:=by
 intro b hb;rcases List.mem_cons.1 hb with rfl|hb
 .exact hz
 .have h1:=(List.pairwise_cons.1 hs).1 b hb;cases e:lt b a with
  |false=>rfl
  |true=>
   rcases h.neg b z a e with h2|h2
   .rw [h1] at h2;cases h2
   .rw [hz] at h2;cases h2
theorem nx(h:Swo lt)(a:α):∀{l:List α},Srt lt l->Srt lt (put lt a l)
 | [],_=>List.pairwise_singleton _ _
 |z::l,hs=>by
  rw [put];split
  .rename_i hz;refine List.pairwise_cons.2 ⟨?_,nx h a (List.pairwise_cons.1 hs).2⟩;intro b hb;rcases Sp.1 hb with rfl|hb
   .exact h.il _ _ hz
   .exact(List.pairwise_cons.1 hs).1 b hb
  .rename_i hz;exact List.pairwise_cons.2 ⟨Yj h hs (by simpa using hz),hs⟩
theorem Q5(h:Swo lt):∀l:List α,Srt lt (BS lt l)
 | []=>List.Pairwise.nil
 |a::l=>nx h a (Q5 h l)
theorem Uh(h:Swo lt)(q:α->Bool)(a:α):∀{l:List α},Srt lt l->(put lt a l).filter q=if q a=true then put lt a (l.filter q) else l.filter q
 | [],_=>by by_cases hq:q a=true <;> simp [put,hq]
 |z::l,hs=>by
  have ih:=Uh h q a (List.pairwise_cons.1 hs).2;rw [put];split
  .rename_i hz;rw [List.filter_cons,ih,List.filter_cons];by_cases hq:q a=true <;> by_cases hqz:q z=true <;> simp [hq,hqz,put,hz]
  .rename_i hz;have habove:=Yj h hs (by simpa using hz);rw [List.filter_cons];by_cases hq:q a=true
   .rw [if_pos hq,if_pos hq,gj];intro b hb;exact habove b (List.mem_filter.1 hb).1
   .rw [if_neg hq,if_neg hq]
theorem GL(h:Swo lt)(q:α->Bool):∀l:List α,(BS lt l).filter q=BS lt (l.filter q)
 | []=>rfl
 |a::l=>by
  rw [OJ,Uh h q a (Q5 h l),GL h q l,List.filter_cons];by_cases hq:q a=true
  .rw [if_pos hq,if_pos hq,OJ]
  .rw [if_neg hq,if_neg hq]
theorem Pq(h:Swo lt):∀{l:List α},(l.Pairwise fun a b=>lt a b=true)->BS lt l=l
 | [],_=>rfl
 |a::l,hs=>by
  rw [OJ,Pq h (List.pairwise_cons.1 hs).2,gj];intro b hb;exact h.il _ _ ((List.pairwise_cons.1 hs).1 b hb)
theorem Ig(h:Swo lt):∀{l:List α},(∀k (hk:k+1<l.length),lt l[k] l[k+1]=true)->l.Pairwise fun a b=>lt a b=true
 | [],_=>List.Pairwise.nil
 | [a],_=>List.pairwise_singleton _ _
 |a::b::l,hc=>by
  have ih:=Ig h (l:=b::l) fun k hk=>hc (k+1) (by simpa using hk)
  have h1:lt a b=true:=hc 0 (by simp);refine List.pairwise_cons.2 ⟨?_,ih⟩;intro c hcm;rcases List.mem_cons.1 hcm with rfl|hcm
  .exact h1
  .exact h.trans h1 ((List.pairwise_cons.1 ih).1 c hcm)
end
theorem Pw{α β:Type}{f g:β->List α}:∀{l:List β},(∀i∈l,(f i).Sublist (g i))->(l.map f).flatten.Sublist (l.map g).flatten
 | [],_=>List.Sublist.slnil
 |i::l,h=>by
  simp only [List.map_cons,List.flatten_cons];exact(h i (List.mem_cons_self ..)).append (Pw fun j hj=>h j (List.mem_cons_of_mem _ hj))
def D6(i:Nat)(p:AN):Bool:=p.At.tmod 9==(i:Int)
theorem FR{i:Nat}{p:AN}:D6 i p=true↔p.At.tmod 9=(i:Int):=by unfold D6;exact beq_iff_eq
theorem OY{w:AK}(hw:JS w){i:Nat}(hi:i<w.AJ.length):(w.AJ.flatten).filter (D6 i)=w.AJ[i]:=by
 have hin:∀j (hj:j<w.AJ.length),∀p∈w.AJ[j],p.At.tmod 9=(j:Int):=by
  intro j hj p hp;obtain⟨k,hk,rfl⟩:=List.mem_iff_getElem.1 hp;exact hw.at_ j hj k hk
 have e:w.AJ.flatten=(w.AJ.take i).flatten++(w.AJ[i]++(w.AJ.drop (i+1)).flatten):=by
  conv=>lhs;rw [<-List.take_append_drop i w.AJ,List.drop_eq_getElem_cons hi]
  simp only [List.flatten_append,List.flatten_cons]
 have h1:((w.AJ.take i).flatten).filter (D6 i)=[]:=by
  rw [List.filter_eq_nil_iff];intro p hp;obtain⟨s,hs,hps⟩:=List.mem_flatten.1 hp;obtain⟨j,hj,rfl⟩:=List.mem_iff_getElem.1 hs;rw [List.length_take] at hj;rw [List.getElem_take] at hps;rw [FR,hin j (by omega) p hps];omega
 have h2:((w.AJ.drop (i+1)).flatten).filter (D6 i)=[]:=by
  rw [List.filter_eq_nil_iff];intro p hp;obtain⟨s,hs,hps⟩:=List.mem_flatten.1 hp;obtain⟨j,hj,rfl⟩:=List.mem_iff_getElem.1 hs;rw [List.length_drop] at hj;rw [List.getElem_drop] at hps;rw [FR,hin (i+1+j) (by omega) p hps];omega
 have h3:(w.AJ[i]).filter (D6 i)=w.AJ[i]:=by
  rw [List.filter_eq_self];intro p hp;rw [FR];exact hin i hi p hp
 rw [e,List.filter_append,List.filter_append,h1,h2,h3];simp
def MO(S:List AN)(j:Nat):AK:=⟨(List.range 9).map fun i=>(S.take j).filter (D6 i)⟩
theorem Yu{w:AK}(hw:JS w):w=⟨(List.range 9).map fun i=>(BS ltP w.AJ.flatten).filter (D6 i)⟩:=by
 have h9:=hw.nine;cases w with
 |mk sp=>
  congr 1;dsimp only at h9 hw ⊢;apply List.ext_getElem
  .simp [h9]
  .intro i h1 h2;rw [List.getElem_map,List.getElem_range,GL Cs,OY hw h1];exact(Pq Cs (Ig Cs (hw.srt i h1))).symm
theorem sx{w:AK}(hw:JS w)(j:Nat):JS (MO (BS ltP w.AJ.flatten) j):=by
 have hsub:(MO (BS ltP w.AJ.flatten) j).AJ.flatten.Sublist w.AJ.flatten:=by
  conv=>rhs;rw [Yu hw]
  exact Pw fun i _=>(List.take_sublist _ _).filter _
 have hsp:∀i (h:i<(MO (BS ltP w.AJ.flatten) j).AJ.length),(MO (BS ltP w.AJ.flatten) j).AJ[i]=((BS ltP w.AJ.flatten).take j).filter (D6 i):=by
  intro i h;simp only [MO,List.getElem_map,List.getElem_range]
 have hstr:∀i,i<9->(((BS ltP w.AJ.flatten).take j).filter (D6 i)).Pairwise fun a b=>ltP a b=true:=by
  intro i hi;have h1:i<w.AJ.length:=by rw [hw.nine];exact hi
  have h2:((BS ltP w.AJ.flatten).filter (D6 i))=w.AJ[i]:=by
   rw [GL Cs,OY hw h1];exact Pq Cs (Ig Cs (hw.srt i h1))
  refine List.Pairwise.sublist ((List.take_sublist _ _).filter _) ?_;rw [h2];exact Ig Cs (hw.srt i h1)
 refine⟨by simp [MO],Nat.le_trans hsub.length_le hw.few,fun p hp=>hw.pins p (hsub.subset hp),hw.ids.sublist hsub,?_,?_⟩
 .intro i h k hk;have hm:(MO (BS ltP w.AJ.flatten) j).AJ[i][k]∈(MO (BS ltP w.AJ.flatten) j).AJ[i]:=List.getElem_mem hk;have hall:∀p∈(MO (BS ltP w.AJ.flatten) j).AJ[i],D6 i p=true:=by
   rw [hsp i h];intro p hp;exact(List.mem_filter.1 hp).2
  exact FR.1 (hall _ hm)
 .intro i h k hk;have h9:i<9:=by simpa [MO] using h
  have:=List.pairwise_iff_getElem.1 (hstr i h9) k (k+1) (by rw [<-hsp i h];omega) (by rw [<-hsp i h];exact hk) (by omega);simpa only [hsp i h] using this
theorem tp{w:AK}(hw:JS w){j:Nat}(hj:j<(BS ltP w.AJ.flatten).length):QP (MO (BS ltP w.AJ.flatten) j) (BS ltP w.AJ.flatten)[j]=MO (BS ltP w.AJ.flatten) (j+1):=by
 have hpm:(BS ltP w.AJ.flatten)[j]∈w.AJ.flatten:=Q3.1 (List.getElem_mem hj);obtain⟨k,hk,e⟩:=oC (Sn (hw.pins _ hpm)).1.1;have hstr:(BS ltP w.AJ.flatten).Pairwise fun a b=>ltP b a=false:=Q5 Cs _
 have e2:(BS ltP w.AJ.flatten).take (j+1)=(BS ltP w.AJ.flatten).take j++[(BS ltP w.AJ.flatten)[j]]:=by rw [List.take_add_one,List.getElem?_eq_getElem hj];rfl
 generalize hS:BS ltP w.AJ.flatten=S at *;have hput:∀(q:AN->Bool),q S[j]=true->(∀b∈(S.take j).filter q,ltP b S[j]=true)->put ltP S[j] ((S.take j).filter q)=(S.take (j+1)).filter q:=by
  intro q hq hall;rw [gk hall,e2,List.filter_append];simp [hq]
 have hlt:∀b∈(S.take j).filter (D6 k),ltP b S[j]=true:=by
  intro b hb;have h9:k<w.AJ.length:=by rw [hw.nine];exact hk
  have h2:S.filter (D6 k)=w.AJ[k]:=by
   rw [<-hS,GL Cs,OY hw h9];exact Pq Cs (Ig Cs (hw.srt k h9))
  have h3:((S.take (j+1)).filter (D6 k)).Pairwise fun a b=>ltP a b=true:=by
   refine List.Pairwise.sublist ((List.take_sublist _ _).filter _) ?_;rw [h2];exact Ig Cs (hw.srt k h9)
  rw [e2,List.filter_append] at h3;have h4:([S[j]]:List AN).filter (D6 k)=[S[j]]:=by simp [FR.2 e]
  rw [h4] at h3;exact(List.pairwise_append.1 h3).2.2 b hb _ (List.mem_singleton.2 rfl)
 unfold QP MO;rw [e,Int.toNat_natCast];congr 1;apply List.ext_getElem
 .simp
 .intro i h1 h2;have hi:i<9:=by simpa using h2
  rw [List.getElem_set];have hD:(((List.range 9).map fun i=>(S.take j).filter (D6 i)).getD k [])=(S.take j).filter (D6 k):=by simp [List.getD,hk]
  split
  .rename_i hki;subst hki;rw [hD,hput _ (FR.2 e) hlt];simp
  .rename_i hki;simp only [List.getElem_map,List.getElem_range];rw [e2,List.filter_append];have:([S[j]]:List AN).filter (D6 i)=[]:=by
    have hn:D6 i S[j]=false:=by
     cases h:D6 i S[j] with
     |false=>rfl
     |true=>rw [FR,e] at h;omega
    simp [hn]
   rw [this,List.append_nil]
theorem Xe{w:AK}(hw:JS w):Fj (BS ltP w.AJ.flatten)=(w,true):=by
 have key:∀m j,j+m=(BS ltP w.AJ.flatten).length->NR ((BS ltP w.AJ.flatten).drop j) (MO (BS ltP w.AJ.flatten) j)=(w,true):=by
  intro m
  induction m with
  |zero=>
   intro j hj;rw [List.drop_eq_nil_of_le (by omega),NR];unfold MO;rw [List.take_of_length_le (by omega),<-Yu hw]
  |succ m ih=>
   intro j hj;have hj':j<(BS ltP w.AJ.flatten).length:=by omega
   have hp:IW (MO (BS ltP w.AJ.flatten) j) (BS ltP w.AJ.flatten)[j]=(MO (BS ltP w.AJ.flatten) (j+1),true):=by
    unfold IW;rw [tp hw hj',if_pos];exact⟨CV.2 (sx hw j),hw.pins _ (Q3.1 (List.getElem_mem hj')),CV.2 (sx hw (j+1))⟩
   rw [Cr hj',NR,hp,if_pos rfl];exact ih (j+1) (by omega)
 have:=key (BS ltP w.AJ.flatten).length 0 (by omega);rw [List.drop_zero] at this;exact this
end Lv.P
namespace Lv.P
open Lv Go
def Good(h:AF)(l:List Int):Prop:=Bl h=true/\BO h/\BX h=l
def bj:AO:=⟨[],0,0,0,0,0,0,0,0⟩
def Hc:AF:=⟨bj,0,0,[],[],[],[]⟩
def Red(l:List Int)(r:AF×Bool):Prop:=(r.2=true->Good r.1 l/\∀h,Good h l->h=r.1)/\(r.2=false->r.1=Hc/\∀h,¬Good h l)
theorem Red.one{l:List Int}{r r':AF×Bool}(h:Red l r)(h':Red l r'):r=r':=by
 obtain⟨g,b⟩:=r;obtain⟨g',b'⟩:=r';obtain⟨h1,h2⟩:=h;obtain⟨h3,h4⟩:=h';dsimp only at h1 h2 h3 h4;cases b <;> cases b'
 .rw [(h2 rfl).1,(h4 rfl).1]
 .exact((h2 rfl).2 _ (h3 rfl).1).elim
 .exact((h4 rfl).2 _ (h1 rfl).1).elim
 .rw [(h1 rfl).2 _ (h3 rfl).1]
theorem Red.bad{l:List Int}(h:∀h,¬Good h l):Red l (Hc,false):=⟨fun h=>(by cases h),fun _=>⟨rfl,h⟩⟩
def fr(c:Am):Int:=c.AM.Co
def up(x:Int):Int:=w64 (x+1)
theorem I9(h:AF):BX h=((Dm h.AS).length:Int)::(Dm h.AS++(h.Now::h.Ah::(h.AE.length:Int)::(h.AE.flatMap FG++(h.AR.map fr++((h.A7.length:Int)::(h.A7++h.BC.map up)))))):=by
 have e1:∀l:List Am,l.flatMap (fun c=>[c.AM.Co])=l.map fr:=fun l=>by rw [List.map_eq_flatMap];rfl
 have e2:∀l:List Int,l.flatMap (fun x=>[w64 (x+1)])=l.map up:=fun l=>by rw [List.map_eq_flatMap];rfl
 unfold BX;rw [e1,e2];simp only [List.append_assoc,List.cons_append,List.nil_append]
noncomputable def VV(r:AO)(ps:List AI)(now:Int)(i:Nat)(free:Int):Am:=
 ⟨⟨r.AM.getD i 0,free,Pk ps i,w64 (w64 (r.AM.getD i 0-free)-Pk ps i),Yp ps i⟩,HR r ps i now,(Fj (KR ps i)).1⟩
theorem yI{t:List Int}{n:Nat}(hn:n<=4)(h:KS t n=true):t.length<=n:=by
 by_cases hc:t.length<=n
 .exact hc
 .exfalso;have hall:∀k (hk:k<t.length),0<=t[k]/\t[k]<n/\∀j (hj:j<k),t[j]≠t[k]:=by
   intro k hk;have h1:=GC.1 h k hk;unfold MN at h1;rw [Ay hk,Bool.and_eq_true,Bp,AP (by omega) (by omega)] at h1;refine⟨h1.1.1,by omega,fun j hj e=>?_⟩;have h2:=h1.2;simp only [Bool.not_eq_true',List.any_eq_false,beq_iff_eq] at h2;refine h2 t[j] ?_ e;rw [List.mem_iff_getElem];exact⟨j,by rw [List.length_take];omega,by rw [List.getElem_take]⟩
  have h0:=hall 0 (by omega)
  match n,hn,hc,hall with
  |0,_,hc,hall=>have:=hall 0 (by omega);omega
  |1,_,hc,hall=>
   have a0:=hall 0 (by omega);have a1:=hall 1 (by omega);have:=a1.2.2 0 (by omega);omega
  |2,_,hc,hall=>
   have a0:=hall 0 (by omega);have a1:=hall 1 (by omega);have a2:=hall 2 (by omega);have:=a1.2.2 0 (by omega);have:=a2.2.2 0 (by omega);have:=a2.2.2 1 (by omega);omega
  |3,_,hc,hall=>
   have a0:=hall 0 (by omega);have a1:=hall 1 (by omega);have a2:=hall 2 (by omega);have a3:=hall 3 (by omega);have:=a1.2.2 0 (by omega);have:=a2.2.2 0 (by omega);have:=a2.2.2 1 (by omega);have:=a3.2.2 0 (by omega);have:=a3.2.2 1 (by omega);have:=a3.2.2 2 (by omega);omega
  |4,_,hc,hall=>
   have a0:=hall 0 (by omega);have a1:=hall 1 (by omega);have a2:=hall 2 (by omega);have a3:=hall 3 (by omega);have a4:=hall 4 (by omega);have:=a1.2.2 0 (by omega);have:=a2.2.2 0 (by omega);have:=a2.2.2 1 (by omega);have:=a3.2.2 0 (by omega);have:=a3.2.2 1 (by omega);have:=a3.2.2 2 (by omega);have:=a4.2.2 0 (by omega);have:=a4.2.2 1 (by omega);have:=a4.2.2 2 (by omega);have:=a4.2.2 3 (by omega);omega
structure AA3(h:AF):Prop where
 rules:Bt h.AS=true
 E2:1<=h.AS.AM.length/\h.AS.AM.length<=4
 AA4:1<=h.AS.Bd/\h.AS.Bd<=3
 few:h.AE.length<=40
 par:∀i (hi:i<h.AE.length),EP h.AS h.AE[i] h.Now=true
 MA:h.AR.length=h.AS.AM.length
 cab:∀i (hi:i<h.AR.length),h.AR[i]=VV h.AS h.AE h.Now i (fr h.AR[i])/\0<=fr h.AR[i]/\fr h.AR[i]<=h.AS.AM.getD i 0/\EG h.AE i<=10
 todo:h.A7.length<=h.AS.AM.length
 sN:(h.BC.length:Int)=h.AS.Bd
 job:∀x∈h.BC,-1<=x/\x<4
theorem ar{w:AK}(hw:DY w=true):(Fj (F6 w)).1=w:=by
 unfold F6;rw [if_pos hw,Xe (CV.1 hw)]
theorem Hh{h:AF}(hb:Bl h=true):AA3 h:=by
 obtain⟨h1,h2,h3,h4,h5,h6,h7,h8,h9,h10⟩:=EU hb;have hr:=BT h1;have hcrew:1<=h.AS.Bd/\h.AS.Bd<=3:=hr.2.2.2.2.2.2.2.2.2;refine⟨h1,hr.1,hcrew,h4,?_,h5,?_,?_,h9,?_⟩
 .intro i hi;have:=GC.1 h6 i hi;unfold YW at this;rw [Ay hi,Bool.and_eq_true] at this;exact this.1
 .intro i hi;have hs:i<h.AS.AM.length:=by omega
  have hk:=GC.1 h10 i hi;unfold S6 at hk;rw [Ay hi,Ay hs] at hk;unfold Fa JV Jx at hk;simp only [Bool.and_eq_true,beq_iff_eq,Bp,Bool.not_eq_true',decide_eq_false_iff_not,GZ nI,GZ nJ] at hk;obtain⟨k1,⟨⟨⟨l1,l2,l3,l4,l5,l6⟩,k3,k4⟩,k5,k6,k7,k8⟩,k9⟩:=hk;have hD:h.AS.AM.getD i 0=h.AS.AM[i]:=by simp [List.getD,hs]
  have hroom:=hr.2.2.1;have hw:=ar k4;rw [k6] at hw;unfold VV fr;rw [hD,<-k5,<-k7,<-k8,<-k1,hw];generalize h.AR[i]=c at *;obtain⟨⟨t,f,hd,s,td⟩,row,wh⟩:=c;dsimp only at *;have e1:w64 (f+hd)=f+hd:=AP (by omega) (by omega);have e2:w64 (f+hd+s)=f+hd+s:=AP (by omega) (by omega);rw [e1,e2] at l5;have e3:w64 (t-f)=t-f:=AP (by omega) (by omega);have e4:w64 (t-f-hd)=t-f-hd:=AP (by omega) (by omega);rw [e3,e4];refine⟨?_,l2.1,l2.2,by omega⟩;congr 2;omega
 .have:=yI (by omega) h7;omega
 .intro x hx;have:=List.all_eq_true.1 h8 x hx;rw [Bp,AP (by omega) (by omega)] at this;omega
def E1(l:List Int):AO×Bool:=
 match l with
 |a::b::c::d::e::f::g::i::x::s=>if Bt ⟨x::s,a,b,c,d,e,f,g,i⟩=true then (⟨x::s,a,b,c,d,e,f,g,i⟩,true) else (bj,false)
 |_=>(bj,false)
theorem Wy{l:List Int}(h:(E1 l).2=true):Bt (E1 l).1=true/\Dm (E1 l).1=l:=by
 unfold E1 at *;split at h
 .split at h
  .rename_i h1;rw [if_pos h1];exact⟨h1,rfl⟩
  .cases h
 .cases h
theorem GS{r:AO}(hb:Bt r=true):E1 (Dm r)=(r,true):=by
 have h1:=(BT hb).1.1;obtain⟨s,a,b,c,d,e,f,g,i⟩:=r
 match s,h1 with
 |x::s,_=>
  show (if Bt _=true then _ else _)=_;rw [if_pos hb]
theorem bP{l:List Int}(hl:l.length<=1048576):mi l=some (E1 l):=by
 unfold mi
 match l,hl with
 | [],_=>rfl
 | [_],_=>rfl
 | [_,_],_=>rfl
 | [_,_,_],_=>rfl
 | [_,_,_,_],_=>rfl
 | [_,_,_,_,_],_=>rfl
 | [_,_,_,_,_,_],_=>rfl
 | [_,_,_,_,_,_,_],_=>rfl
 | [_,_,_,_,_,_,_,_],_=>rfl
 |a::b::c::d::e::f::g::i::x::s,hl=>
  simp only [List.length_cons] at hl;have hs:(x::s).length<2 ^ 62:=by simp only [List.length_cons];omega
  rw [AV,if_neg (by simp only [List.length_cons];omega)];have e0:at? (a::b::c::d::e::f::g::i::x::s) 0=some a:=rfl;have e1:at? (a::b::c::d::e::f::g::i::x::s) 1=some b:=rfl;have e2:at? (a::b::c::d::e::f::g::i::x::s) 2=some c:=rfl;have e3:at? (a::b::c::d::e::f::g::i::x::s) 3=some d:=rfl;have e4:at? (a::b::c::d::e::f::g::i::x::s) 4=some e:=rfl;have e5:at? (a::b::c::d::e::f::g::i::x::s) 5=some f:=rfl;have e6:at? (a::b::c::d::e::f::g::i::x::s) 6=some g:=rfl;have e7:at? (a::b::c::d::e::f::g::i::x::s) 7=some i:=rfl;have e8:List.drop (Int.toNat 8) (a::b::c::d::e::f::g::i::x::s)=x::s:=rfl;have g1:(0:Int)<=8/\(8:Int)<=((a::b::c::d::e::f::g::i::x::s).length:Int):=by simp only [List.length_cons];omega
  have hlim:lim=268435456:=rfl;have g2:0+(x::s).length<=lim:=by simp only [List.length_cons];omega
  simp only [e0,e1,e2,e3,e4,e5,e6,e7,e8,AA,A1 g1,A1 g2,Bj,K2,K3,K4,K5,K6,K7,K8,List.nil_append,DP (r:=⟨x::s,a,b,c,d,e,f,g,i⟩) hs,Ai];unfold E1;dsimp only;cases Bt ⟨x::s,a,b,c,d,e,f,g,i⟩ <;> rfl
theorem Z3{l:List Int}(hl:l.length<=1048576):me l=some (E1 l):=by
 unfold me
 match l,hl with
 | [],_=>rfl
 | [_],_=>rfl
 | [_,_],_=>rfl
 | [_,_,_],_=>rfl
 | [_,_,_,_],_=>rfl
 | [_,_,_,_,_],_=>rfl
 | [_,_,_,_,_,_],_=>rfl
 | [_,_,_,_,_,_,_],_=>rfl
 | [_,_,_,_,_,_,_,_],_=>rfl
 |a::b::c::d::e::f::g::i::x::s,hl=>
  simp only [List.length_cons] at hl;have hs:(x::s).length<2 ^ 62:=by simp only [List.length_cons];omega
  rw [AV,if_neg (by simp only [List.length_cons];omega)];have e0:at? (a::b::c::d::e::f::g::i::x::s) 0=some a:=rfl;have e1:at? (a::b::c::d::e::f::g::i::x::s) 1=some b:=rfl;have e2:at? (a::b::c::d::e::f::g::i::x::s) 2=some c:=rfl;have e3:at? (a::b::c::d::e::f::g::i::x::s) 3=some d:=rfl;have e4:at? (a::b::c::d::e::f::g::i::x::s) 4=some e:=rfl;have e5:at? (a::b::c::d::e::f::g::i::x::s) 5=some f:=rfl;have e6:at? (a::b::c::d::e::f::g::i::x::s) 6=some g:=rfl;have e7:at? (a::b::c::d::e::f::g::i::x::s) 7=some i:=rfl;have e8:List.drop (Int.toNat 8) (a::b::c::d::e::f::g::i::x::s)=x::s:=rfl;have g1:(0:Int)<=8/\(8:Int)<=((a::b::c::d::e::f::g::i::x::s).length:Int):=by simp only [List.length_cons];omega
  have hc:T3 (x::s)=some (x::s):=lW (by simp only [List.length_cons];omega);simp only [e0,e1,e2,e3,e4,e5,e6,e7,e8,AA,A1 g1,hc,Bj,K2,K3,K4,K5,K6,K7,K8,DL (r:=⟨x::s,a,b,c,d,e,f,g,i⟩) hs,Ai];unfold E1;dsimp only;cases Bt ⟨x::s,a,b,c,d,e,f,g,i⟩ <;> rfl
theorem uq(x y:Int):(x==y)=true↔x=y:=beq_iff_eq
theorem H9{a b:List Int}(hl:a.length<2 ^ 62):Ua a b=some (DE (·==·) a b):=by
 unfold Ua;refine OV (by omega) ?_ ?_
 .intro L i h h';unfold Ub;rw [Ac h,Ab,AX h,AA,AX h',AA];rfl
 .intro L;unfold Ub fF;rw [Ae,Ad,AG]
theorem fj{a b:List Int}(hl:a.length<2 ^ 62):mh a b=some (DE (·==·) a b):=by
 unfold mh;refine OV (by omega) ?_ ?_
 .intro L i h h';unfold UR;rw [Ac h,Ab,AX h,AA,AX h',AA];rfl
 .intro L;unfold UR fB;rw [Ae,Ad,AG]
theorem XW{a b:List Int}(hl:a.length<2 ^ 62):X6 a b=some (DE (·==·) a b):=by
 unfold X6;refine OV (by omega) ?_ ?_
 .intro L i h h';unfold T9;rw [Ac h,Ab,AX h,AA,AX h',AA];rfl
 .intro L;unfold T9 eM;rw [Ae,Ad,AG]
end Lv.P
namespace Lv.P
open Lv Go
def rd(l:List Int)(k:Nat)(b:Bool):BQ:=⟨l,(k:Int),b⟩
theorem aF{l:List Int}{k:Nat}{b:Bool}(hl:l.length<=1048576)(hk:k<=l.length) :
 ∃n k' b',Ri (rd l k b)=some (n,rd l k' b')/\k'<=l.length/\∀x rest,l.drop k=x::rest->n=x/\l.drop k'=rest/\b'=b:=by
 unfold Ri;rw [AV];rcases Nat.lt_or_ge k l.length with h|h
 .rw [if_neg (show ¬((rd l k b).at_>=((rd l k b).Lg.length:Int)) from by show ¬((k:Int)>=(l.length:Int));omega)];have e1:w64 ((k:Int)+1)=((k+1:Nat):Int):=Ag h (by omega);have e2:w64 (((k+1:Nat):Int)-1)=(k:Int):=by rw [AP (by omega) (by omega)];omega
  show ∃n k' b',(bd (at? l (w64 (w64 ((k:Int)+1)-1))) fun x1=>some (x1,BQ.mk l (w64 ((k:Int)+1)) b))=_/\_;rw [e1,e2,AX h,AA];refine⟨_,k+1,b,rfl,by omega,fun x rest e=>?_⟩;rw [Cr h] at e;cases e;exact⟨rfl,rfl,rfl⟩
 .rw [if_pos (show (rd l k b).at_>=((rd l k b).Lg.length:Int) from by show (k:Int)>=(l.length:Int);omega)];refine⟨0,k,true,rfl,hk,fun x rest e=>?_⟩;rw [List.drop_eq_nil_of_le h] at e;cases e
theorem SN{l:List Int}{k:Nat}{b:Bool}(hl:l.length<=1048576)(hk:k<=l.length){m:Int}(hm:0<=m) :
 ∃n k' b',Rj (rd l k b) m=some (n,rd l k' b')/\k'<=l.length/\0<=n/\n<=m/\∀x rest,l.drop k=x::rest->0<=x->x<=m->n=x/\l.drop k'=rest/\b'=b:=by
 obtain⟨n,k',b',h1,h2,h3⟩:=aF (b:=b) hl hk;unfold Rj;rw [h1,AA,FB,AA,Ai];cases e:inB n 0 m with
 |true=>
  rw [Bp] at e;exact⟨n,k',b',rfl,h2,e.1,e.2,fun x rest hx _ _=>h3 x rest hx⟩
 |false=>
  refine⟨0,k',true,rfl,h2,by omega,hm,fun x rest hx h0 h1=>?_⟩;obtain⟨q1,q2,q3⟩:=h3 x rest hx;have:inB n 0 m=true:=by rw [Bp,q1];omega
  rw [e] at this;cases this
theorem aJ{l:List Int}{k:Nat}{b:Bool}(hl:l.length<=1048576)(hk:k<=l.length){n:Nat}(hn:n<=1048576) :
 ∃xs k' b',Rk (rd l k b) (n:Int)=some (xs,rd l k' b')/\k'<=l.length/\xs.length=n/\∀ys rest,l.drop k=ys++rest->ys.length=n->xs=ys/\l.drop k'=rest/\b'=b:=by
 unfold Rk;have key:=E9 (F:=UY (n:Int)) (n:=n) (fun i (v:List Int×Nat×Bool)=>(v.1,(i:Int),rd l v.2.1 v.2.2))
  (fun i v=>v.1.length=i/\v.2.1<=l.length/\∀ys rest,l.drop k=ys++rest->ys.length=n->v.1=ys.take i/\l.drop v.2.1=ys.drop i++rest/\v.2.2=b)
  (fun r:List Int×BQ=>∃k' b',r.2=rd l k' b'/\k'<=l.length/\r.1.length=n/\∀ys rest,l.drop k=ys++rest->ys.length=n->r.1=ys/\l.drop k'=rest/\b'=b) (by omega) ?_ (v:=([],k,b)) ⟨rfl,hk,fun ys rest h _=>⟨by simp,by simpa using h,rfl⟩⟩
 .obtain⟨r,hr,k',b',hr2,h1,h2,h3⟩:=key;exact⟨r.1,k',b',by rw [<-hr2];exact hr,h1,h2,h3⟩
 .rintro L i ⟨xs,q,c⟩ ⟨g1,g2,g3⟩ hi ih;dsimp only at g1 g2 g3 ih ⊢;unfold UY;dsimp only;rcases Nat.lt_or_ge i n with h|h
  .obtain⟨x,q',c',e1,e2,e3⟩:=aF (b:=c) hl g2;have hlim:lim=268435456:=rfl;rw [Ac h,Ab,e1,AA,A1 (by rw [DC];omega),Ag h (by omega)];refine ih (xs++[x],q',c') ⟨by simp [g1],e2,fun ys rest hy hn'=>?_⟩ h;obtain⟨p1,p2,p3⟩:=g3 ys rest hy hn';have hiy:i<ys.length:=by omega
   rw [Cr hiy] at p2;obtain⟨u1,u2,u3⟩:=e3 _ _ p2;refine⟨?_,u2,u3.trans p3⟩;rw [p1,u1,List.take_add_one,List.getElem?_eq_getElem hiy];rfl
  .obtain rfl:i=n:=by omega
   rw [Ae,Ad,AG];unfold fD;refine⟨_,rfl,q,c,rfl,g2,g1,fun ys rest hy hn'=>?_⟩;obtain⟨p1,p2,p3⟩:=g3 ys rest hy hn';refine⟨by rw [p1,List.take_of_length_le (by omega)],?_,p3⟩;rw [p2,List.drop_eq_nil_of_le (by omega)];rfl
theorem ten{α:Type}{l:List α}(h:l.length=10):∃a b c d e f g i j k,l=[a,b,c,d,e,f,g,i,j,k]:=by
 match l,h with
 | [a,b,c,d,e,f,g,i,j,k],_=>exact⟨a,b,c,d,e,f,g,i,j,k,rfl⟩
theorem vO{l:List Int}{k:Nat}{b:Bool}(hl:l.length<=1048576)(hk:k<=l.length) :
 ∃p k' b',mj (rd l k b)=some (p,rd l k' b')/\k'<=l.length/\∀(q:AI) rest,l.drop k=FG q++rest -> -1<=q.CB->q.CB<=1048576->p=q/\l.drop k'=rest/\b'=b:=by
 obtain⟨xs,k',b',h1,h2,h3,h4⟩:=aJ (b:=b) hl hk (n:=10) (by omega);obtain⟨a0,a1,a2,a3,a4,a5,a6,a7,a8,a9,rfl⟩:=ten h3;unfold mj;rw [show (10:Int)=((10:Nat):Int) from rfl,h1,AA];have e0:at? [a0,a1,a2,a3,a4,a5,a6,a7,a8,a9] 0=some a0:=rfl;have e1:at? [a0,a1,a2,a3,a4,a5,a6,a7,a8,a9] 1=some a1:=rfl;have e2:at? [a0,a1,a2,a3,a4,a5,a6,a7,a8,a9] 2=some a2:=rfl;have e3:at? [a0,a1,a2,a3,a4,a5,a6,a7,a8,a9] 3=some a3:=rfl;have e4:at? [a0,a1,a2,a3,a4,a5,a6,a7,a8,a9] 4=some a4:=rfl;have e5:at? [a0,a1,a2,a3,a4,a5,a6,a7,a8,a9] 5=some a5:=rfl;have e6:at? [a0,a1,a2,a3,a4,a5,a6,a7,a8,a9] 6=some a6:=rfl;have e7:at? [a0,a1,a2,a3,a4,a5,a6,a7,a8,a9] 7=some a7:=rfl;have e8:at? [a0,a1,a2,a3,a4,a5,a6,a7,a8,a9] 8=some a8:=rfl;have e9:at? [a0,a1,a2,a3,a4,a5,a6,a7,a8,a9] 9=some a9:=rfl;simp only [e0,e1,e2,e3,e4,e5,e6,e7,e8,e9,AA,Pt];refine⟨_,k',b',rfl,h2,fun q rest hq hf hf2=>?_⟩;obtain⟨p1,p2,p3⟩:=h4 (FG q) rest hq rfl;refine⟨?_,p2,p3⟩;unfold FG at p1;simp only [List.cons.injEq,and_true] at p1;obtain⟨q0,q1,q2,q3,q4,q5,q6,q7,q8,q9⟩:=p1;rw [AP (by omega) (by omega)] at q2;have hfrom:w64 ((if a2>0 then a2 else 0)-1)=q.CB:=by
  rw [AP (by split <;> omega) (by split <;> omega)];split <;> omega
 rw [hfrom,q0,q1,q3,q4,q5,q6,q7,q8,q9]
def tl4(g:AF):List Int:=(g.A7.length:Int)::(g.A7++g.BC.map up)
def tl3(g:AF)(i:Nat):List Int:=(g.AR.drop i).map fr++tl4 g
def tl2(g:AF)(i:Nat):List Int:=(g.AE.drop i).flatMap FG++tl3 g 0
theorem YI{g:AF}{l:List Int}(h:Good g l):l=((Dm g.AS).length:Int)::(Dm g.AS++(g.Now::g.Ah::(g.AE.length:Int)::tl2 g 0)):=by
 rw [<-h.2.2,I9];simp only [tl2,tl3,tl4,List.drop_zero]
def Hd(g:AF)(R:AO)(now turn:Int):Prop:=g.AS=R/\g.Now=now/\g.Ah=turn
theorem YK{h:AF}{R:AO}(hR:h.AS=R):AF.mk (AO.mk R.AM R.BG R.Room R.As R.A2 R.Ax R.Rest R.BA R.Bd) h.Now h.Ah h.AE h.AR h.A7 h.BC=h:=by
 subst hR;rfl
theorem HW{a b:List Int}:DE (·==·) a b=true↔a=b:=GZ uq
def jb(j:Int):Int:=w64 ((if j > -5 then j else -5)-1)
theorem yf{x:Int}(h:-1<=x)(h2:x<4):jb (up x)=x:=by
 unfold jb up;rw [AP (n:=x+1) (by omega) (by omega),if_pos (by omega),AP (by omega) (by omega)];omega
section spec
variable{l:List Int}(hl:l.length<=1048576){R:AO×Bool}{now turn:Int}
include hl
theorem yn{x:List Int×BQ}{h:AF}(hR:h.AS=R.1)(hh:BO h)(ha:∀g,Good g l->g=h/\x.2.cD=false) :
 ∃r,Kt l R x ((),R.1.BG,R.1.Room,R.1.As,R.1.A2,R.1.Ax,R.1.Rest,R.1.BA,R.1.Bd,h.Now,h.Ah,h.AE,h.AR,h.A7,h.BC)=some r/\Red l r:=by
 unfold Kt PM;dsimp only;rw [YK hR];cases hb:x.2.cD with
 |true=>
  rw [Ab,AG,Ab];exact⟨_,rfl,Red.bad fun g hg=>by have:=(ha g hg).2;rw [hb] at this;cases this⟩
 |false=>
  rw [Ad,Cv hh,AA,Ai];cases hB:Bl h with
  |false=>
   rw [Ad,AG,Ab];exact⟨_,rfl,Red.bad fun g hg=>by rw [(ha g hg).1] at hg;rw [hg.1] at hB;cases hB⟩
  |true=>
   have hnl:=JA hh hB;rw [Ab,RQ hh hB,AA,H9 (by omega),AA,AG,Ai];cases hs:DE (·==·) (BX h) l with
   |true=>
    rw [Ab];exact⟨_,rfl,fun _=>⟨⟨hB,hh,HW.1 hs⟩,fun g hg=>(ha g hg).1⟩,fun hc=>by cases hc⟩
   |false=>
    rw [Ad];refine⟨_,rfl,Red.bad fun g hg=>?_⟩;rw [(ha g hg).1] at hg;rw [HW.2 hg.2.2] at hs;cases hs
theorem yq{x:List Int×BQ}{ps:List AI}{cs:List Am}{td:List Int}(hx:x.1.length<=1048576) :
 AT (T8 l R x) big (0,(),R.1.BG,R.1.Room,R.1.As,R.1.A2,R.1.Ax,R.1.Rest,R.1.BA,R.1.Bd,now,turn,ps,cs,td,[]) =
  Kt l R x ((),R.1.BG,R.1.Room,R.1.As,R.1.A2,R.1.Ax,R.1.Rest,R.1.BA,R.1.Bd,now,turn,ps,cs,td,x.1.map jb):=by
 refine Bz (n:=x.1.length) (fun i (v:List Int)=>((i:Int),(),R.1.BG,R.1.Room,R.1.As,R.1.A2,R.1.Ax,R.1.Rest,R.1.BA,R.1.Bd,now,turn,ps,cs,td,v)) (fun i v=>v=(x.1.take i).map jb)
  (fun _ _=>Kt l R x ((),R.1.BG,R.1.Room,R.1.As,R.1.A2,R.1.Ax,R.1.Rest,R.1.BA,R.1.Bd,now,turn,ps,cs,td,x.1.map jb)) (by omega) ?_ (v:=[]) (by simp)
 intro L i v hv hi ih;unfold T8;dsimp only;rcases Nat.lt_or_ge i x.1.length with h|h
 .have hlim:lim=268435456:=rfl;have hvl:v.length<=1048576:=by rw [hv,List.length_map,List.length_take];omega
  simp only [Ac h,Ab,AX h,AA,Pt,Ag h (by omega:x.1.length<2 ^ 63)];rw [A1 (by rw [DC];omega)];refine ih _ ?_ h;rw [hv,List.take_add_one,List.getElem?_eq_getElem h,List.map_append];rfl
 .obtain rfl:i=x.1.length:=by omega
  rw [Ae,Ad,AG,hv,List.take_length]
theorem ym(hr:Bt R.1=true){ps:List AI}{cs:List Am}{k:Nat}{b:Bool}(hk:k<=l.length)(hps:ps.length<=1048576)(hcs:cs.length<=1048576)(hcf:∀c∈cs,CW c)
 (ha:∀g,Good g l->Hd g R.1 now turn/\g.AE=ps/\g.AR=cs/\l.drop k=tl4 g/\b=false) :
 ∃r,T6 l R ((),R.1.BG,R.1.Room,R.1.As,R.1.A2,R.1.Ax,R.1.Rest,R.1.BA,R.1.Bd,now,turn,ps,cs,[],[],rd l k b)=some r/\Red l r:=by
 have hrl:=BT hr;have hcrew:=hrl.2.2.2.2.2.2.2.2.2;unfold T6;dsimp only;obtain⟨nt,k1,b1,e1,e2,e3,e4,e5⟩:=SN (b:=b) hl hk (m:=(R.1.AM.length:Int)) (by omega);obtain⟨n,rfl⟩:=Int.eq_ofNat_of_zero_le e3;obtain⟨td,k2,b2,f1,f2,f3,f4⟩:=aJ (b:=b1) hl e2 (n:=n) (by omega);obtain⟨c,hc⟩:=Int.eq_ofNat_of_zero_le (show 0<=R.1.Bd by omega);obtain⟨js,k3,b3,g1,g2,g3,g4⟩:=aJ (b:=b2) hl f2 (n:=c) (by omega);rw [e1,AA];dsimp only;rw [f1,AA];dsimp only;have g1':Rk (rd l k2 b2) R.1.Bd=some (js,rd l k3 b3):=by rw [hc];exact g1
 rw [g1',AA];rw [yq hl (by dsimp only;omega)];refine yn hl (h:=⟨R.1,now,turn,ps,cs,td,js.map jb⟩) rfl ⟨by dsimp only;omega,hps,hcs,hcf,by dsimp only;omega,by dsimp only;rw [List.length_map];omega⟩ ?_;intro g hg;obtain⟨⟨q1,q2,q3⟩,q4,q5,q6,q7⟩:=ha g hg;have hrt:=Hh hg.1;obtain⟨u1,u2,u3⟩:=e5 _ _ q6 (by omega) (by have:=hrt.todo;rw [q1] at this;omega);obtain⟨v1,v2,v3⟩:=f4 _ _ u2 (by omega);obtain⟨w1,w2,w3⟩:=g4 (g.BC.map up) [] (by rw [v2,List.append_nil]) (by rw [List.length_map];have:=hrt.sN;rw [q1,hc] at this;omega);have hj:js.map jb=g.BC:=by
  rw [w1,List.map_map]
  conv=>rhs;rw [<-List.map_id g.BC]
  apply List.map_congr_left;intro y hy;have:=hrt.job y hy;exact yf this.1 this.2
 refine⟨?_,by dsimp only [rd];rw [w3,v3,u3,q7]⟩;rw [hj,v1];cases g;dsimp only at *;rw [q1,q2,q3,q4,q5]
theorem yp(hr:Bt R.1=true){ps:List AI}{k:Nat}{b:Bool}(hk:k<=l.length)(hps:ps.length<=40)
 (ha:∀g,Good g l->Hd g R.1 now turn/\g.AE=ps/\l.drop k=tl3 g 0/\b=false) :
 ∃r,T5 l R ((),R.1.BG,R.1.Room,R.1.As,R.1.A2,R.1.Ax,R.1.Rest,R.1.BA,R.1.Bd,now,turn,ps,[],[],[],rd l k b)=some r/\Red l r:=by
 have hrl:=BT hr;unfold T5;dsimp only;refine E9 (n:=R.1.AM.length) (fun i (v:List Am×Nat×Bool)=>((i:Int),(),R.1.BG,R.1.Room,R.1.As,R.1.A2,R.1.Ax,R.1.Rest,R.1.BA,R.1.Bd,now,turn,ps,v.1,[],[],rd l v.2.1 v.2.2))
  (fun i v=>v.1.length=i/\(∀c∈v.1,CW c)/\v.2.1<=l.length/\∀g,Good g l->Hd g R.1 now turn/\g.AE=ps/\v.1=g.AR.take i/\l.drop v.2.1=tl3 g i/\v.2.2=false)
  (Red l) (by omega) ?_ (v:=([],k,b)) ⟨rfl,by simp,hk,fun g hg=>by obtain⟨h1,h2,h3,h4⟩:=ha g hg;exact⟨h1,h2,by simp,h3,h4⟩⟩
 rintro L i ⟨cs,q,c⟩ ⟨g1,gf,g2,g3⟩ hi ih;dsimp only at g1 gf g2 g3 ih ⊢;unfold eL;dsimp only;rcases Nat.lt_or_ge i R.1.AM.length with h|h
 .have hseat:=hrl.2.2.2.2.2.1 _ (List.getElem_mem h);have hD:R.1.AM.getD i 0=R.1.AM[i]:=by simp [List.getD,h]
  obtain⟨fr',q',c',e1,e2,e3,e4,e5⟩:=SN (b:=c) hl g2 (m:=R.1.AM[i]) (by omega);have hpl:(KR ps (i:Int)).length<=1048576:=by
   unfold KR;rw [EX];have:=List.length_filterMap_le (OT (i:Int)) ps;omega
  have hlim:lim=268435456:=rfl;rw [Ac h,Ab,AX h];simp only [AA,e1,ML (show ps.length<=1048576 by omega),bQ hpl,H7 (show ps.length<2 ^ 58 by omega),H8 (show ps.length<2 ^ 58 by omega),Bj,K2,K3,K4,K5,K6,K7,K8,KB (r:=R.1) (show R.1.AM.length<2 ^ 62 by omega) (show ps.length<=1048576 by omega)];rw [A1 (by rw [DC];omega),Ag h (by omega)];have hcab:Am.mk (BH.mk R.1.AM[i] fr' (Pk ps i) (w64 (w64 (R.1.AM[i]-fr')-Pk ps i)) (Yp ps i)) (HR R.1 ps i now) (Fj (KR ps i)).1=VV R.1 ps now i fr':=by unfold VV;rw [hD]
  rw [hcab];refine ih (cs++[VV R.1 ps now i fr'],q',c') ⟨by simp [g1],?_,e2,fun g hg=>?_⟩ h
  .intro x hx;rcases List.mem_append.1 hx with hx|hx
   .exact gf x hx
   .rw [List.mem_singleton.1 hx];refine⟨?_,SE _⟩;unfold VV HR;dsimp only;rw [EX];have:=List.length_filterMap_le (M7 R.1 (i:Int) now) ps;omega
  .obtain⟨⟨p1,p2,p3⟩,p4,p5,p6,p7⟩:=g3 g hg;have hrt:=Hh hg.1;have hic:i<g.AR.length:=by rw [hrt.MA,p1];exact h
   obtain⟨w1,w2,w3,w4⟩:=hrt.cab i hic;unfold tl3 at p6;rw [Cr hic,List.map_cons] at p6;obtain⟨u1,u2,u3⟩:=e5 _ _ p6 w2 (by rw [p1,hD] at w3;exact w3);refine⟨⟨p1,p2,p3⟩,p4,?_,u2,u3.trans p7⟩;rw [List.take_add_one,List.getElem?_eq_getElem hic,p5,u1];rw [p1,p4,p2] at w1
   conv=>rhs;rw [w1]
   rfl
 .obtain rfl:i=R.1.AM.length:=by omega
  rw [Ae,Ad,AG];refine ym hl hr g2 (by omega) (by omega) gf fun g hg=>?_
  obtain⟨p1,p4,p5,p6,p7⟩:=g3 g hg;have hrt:=Hh hg.1;have hn:g.AR.length=R.1.AM.length:=by rw [hrt.MA,p1.1]
  refine⟨p1,p4,?_,?_,p7⟩
  .rw [p5,List.take_of_length_le (by omega)]
  .rw [p6];unfold tl3;rw [List.drop_eq_nil_of_le (by omega)];rfl
theorem yo(hr:Bt R.1=true){n:Int}{x:Int×BQ}(hx:x.1=n)(hn0:0<=n)(hn:n<=40){k:Nat}{b:Bool}(hk:k<=l.length)
 (ha:∀g,Good g l->Hd g R.1 now turn/\(g.AE.length:Int)=n/\l.drop k=tl2 g 0/\b=false) :
 ∃r,AT (T7 l R x) big (0,(),R.1.BG,R.1.Room,R.1.As,R.1.A2,R.1.Ax,R.1.Rest,R.1.BA,R.1.Bd,now,turn,[],[],[],[],rd l k b)=some r/\Red l r:=by
 have hrl:=BT hr;obtain⟨m,rfl⟩:=Int.eq_ofNat_of_zero_le hn0;refine E9 (n:=m) (fun i (v:List AI×Nat×Bool)=>((i:Int),(),R.1.BG,R.1.Room,R.1.As,R.1.A2,R.1.Ax,R.1.Rest,R.1.BA,R.1.Bd,now,turn,v.1,[],[],[],rd l v.2.1 v.2.2))
  (fun i v=>v.1.length=i/\v.2.1<=l.length/\∀g,Good g l->Hd g R.1 now turn/\g.AE.length=m/\v.1=g.AE.take i/\l.drop v.2.1=tl2 g i/\v.2.2=false)
  (Red l) (by omega) ?_ (v:=([],k,b)) ⟨rfl,hk,fun g hg=>by obtain⟨h1,h2,h3,h4⟩:=ha g hg;exact⟨h1,by omega,by simp,h3,h4⟩⟩
 rintro L i ⟨ps,q,c⟩ ⟨g1,g2,g3⟩ hi ih;dsimp only at g1 g2 g3 ih ⊢;unfold T7;dsimp only;rw [hx];rcases Nat.lt_or_ge i m with h|h
 .obtain⟨p,q',c',e1,e2,e3⟩:=vO (b:=c) hl g2;rw [Ac h,Ab,e1,AA];dsimp only;rw [KA (by omega),AA,Ai];have hag:∀g,Good g l->p=g.AE.getD i ⟨0,0,0,0,0,0,0,0,0,0⟩/\i<g.AE.length/\l.drop q'=tl2 g (i+1)/\c'=false:=by
   intro g hg;obtain⟨p1,p2,p3,p4,p5⟩:=g3 g hg;have hip:i<g.AE.length:=by omega
   have hpo:=JH ((Hh hg.1).par i hip);have hs:=(BT hpo.1).1;unfold tl2 at p4;rw [Cr hip,List.flatMap_cons,List.append_assoc] at p4;obtain⟨u1,u2,u3⟩:=e3 _ _ p4 hpo.2.2.2.2.1.1 (by omega);refine⟨?_,hip,u2,u3.trans p5⟩;rw [u1];simp [List.getD,hip]
  cases hp:EP R.1 p now with
  |true=>
   have hlim:lim=268435456:=rfl;rw [Ab,A1 (by rw [DC];omega),Ag h (by omega)];refine ih (ps++[p],q',c') ⟨by simp [g1],e2,fun g hg=>?_⟩ h;obtain⟨p1,p2,p3,p4,p5⟩:=g3 g hg;obtain⟨u1,u2,u3,u4⟩:=hag g hg;refine⟨p1,p2,?_,u3,u4⟩;rw [List.take_add_one,List.getElem?_eq_getElem u2,p3,u1];simp [List.getD,u2]
  |false=>
   rw [Ad];refine⟨_,rfl,Red.bad fun g hg=>?_⟩;obtain⟨p1,p2,p3,p4,p5⟩:=g3 g hg;obtain⟨u1,u2,u3,u4⟩:=hag g hg;have:=(Hh hg.1).par i u2;rw [u1] at hp;have e:g.AE.getD i ⟨0,0,0,0,0,0,0,0,0,0⟩=g.AE[i]:=by simp [List.getD,u2]
   rw [e,<-p1.1,<-p1.2.1,this] at hp;cases hp
 .obtain rfl:i=m:=by omega
  rw [Ae,Ad,AG];refine yp hl hr g2 (by omega) fun g hg=>?_
  obtain⟨p1,p2,p3,p4,p5⟩:=g3 g hg;refine⟨p1,?_,?_,p5⟩
  .rw [p3,List.take_of_length_le (by omega)]
  .rw [p4];unfold tl2;rw [List.drop_eq_nil_of_le (by omega)];rfl
end spec
theorem bN{l:List Int}(hl:l.length<=1048576):∃r,T4 l=some r/\Red l r:=by
 unfold T4;obtain⟨sz,k1,b1,a1,a2,a3,a4,a5⟩:=SN (l:=l) (k:=0) (b:=false) hl (Nat.zero_le _) (m:=12) (by omega);obtain⟨s,rfl⟩:=Int.eq_ofNat_of_zero_le a3;obtain⟨xs,k2,b2,c1,c2,c3,c4⟩:=aJ (b:=b1) hl a2 (n:=s) (by omega);have a1':Rj (BQ.mk l 0 false) 12=some ((s:Int),rd l k1 b1):=a1;rw [a1',AA];dsimp only;rw [c1,AA];dsimp only;rw [bP (by omega),AA,Ai];have hag:∀g,Good g l->xs=Dm g.AS/\l.drop k2=g.Now::g.Ah::(g.AE.length:Int)::tl2 g 0/\b2=false:=by
  intro g hg;have hn:=YI hg;have hlen:=FV g.AS;have hrt:=Hh hg.1;obtain⟨u1,u2,u3⟩:=a5 _ _ (by rw [List.drop_zero];exact hn) (by omega) (by have:=hrt.E2;omega);obtain⟨v1,v2,v3⟩:=c4 _ _ u2 (by omega);exact⟨v1,v2,v3.trans u3⟩
 cases hR:(E1 xs).2 with
 |false=>
  rw [Ad];refine⟨_,rfl,Red.bad fun g hg=>?_⟩;rw [(hag g hg).1,GS (Hh hg.1).rules] at hR;cases hR
 |true=>
  rw [Ab];have hrb:=(Wy hR).1;obtain⟨n1,k3,b3,d1,d2,d3⟩:=aF (b:=b2) hl c2;obtain⟨n2,k4,b4,f1,f2,f3⟩:=aF (b:=b3) hl d2;obtain⟨n3,k5,b5,g1,g2,g3,g4,g5⟩:=SN (b:=b4) hl f2 (m:=40) (by omega);simp only [d1,AA,Bj,K2,K3,K4,K5,K6,K7,K8,bh,f1,g1];refine yo hl hrb (now:=n1) (turn:=n2) rfl g3 g4 g2 fun g hg=>?_
  obtain⟨q1,q2,q3⟩:=hag g hg;have hrt:=Hh hg.1;obtain⟨u1,u2,u3⟩:=d3 _ _ q2;obtain⟨v1,v2,v3⟩:=f3 _ _ u2;obtain⟨w1,w2,w3⟩:=g5 _ _ v2 (by omega) (by have:=hrt.few;omega);refine⟨⟨?_,u1.symm,v1.symm⟩,w1.symm,w2,by rw [w3,v3,u3,q3]⟩;rw [q1,GS hrt.rules]
end Lv.P
