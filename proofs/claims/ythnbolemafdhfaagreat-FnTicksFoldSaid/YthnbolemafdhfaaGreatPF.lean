/-
  Plain laws: a pin is put into a wheel; the wheel of a row of pins.
-/
import Derived.Test.YthnbolemafdhfaaGreatKD
import Derived.Test.YthnbolemafdhfaaGreatPE
import Derived.Test.YthnbolemafdhfaaGreatPC
set_option linter.unusedVariables false
set_option linter.unusedSimpArgs false
set_option linter.unusedSectionVars false
namespace Lv.P
open Lv Go
def P4(w:AU)(p:Ag):AU:=⟨w.AP.set (p.At.tmod 9).toNat (put ltP p (w.AP.getD (p.At.tmod 9).toNat []))⟩
noncomputable def LQ(w:AU)(p:Ag):AU×Bool:=if FJ w=true/\ZC p=true/\FJ (P4 w p)=true then (P4 w p,true) else (w,false)
theorem JX{p:Ag}(h:ZC p=true):(1<=p.At/\p.At<=1000008)/\1<=p.Id/\p.Id<=999:=by
 unfold ZC at h;simpa only [Bool.and_eq_true,BH] using h
theorem VJ{n:Int}(h:1<=n):∃k:Nat,k<9/\n.tmod 9=(k:Int):=by
 obtain⟨m,rfl⟩:=Int.eq_ofNat_of_zero_le (show 0<=n by omega);refine⟨m % 9,Nat.mod_lt _ (by omega),?_⟩;rw [Int.tmod_eq_emod_of_nonneg (by omega)];rfl
theorem Sd{α:Type}{l:List (List α)}{k:Nat}(h:k<l.length)(x:List α):(l.set k x).flatten.length+l[k].length=l.flatten.length+x.length:=by
 rw [List.set_eq_take_append_cons_drop,if_pos h]
 conv=>rhs;rw [<-List.take_append_drop k l,List.drop_eq_getElem_cons h]
 simp only [List.flatten_append,List.flatten_cons,List.length_append];omega
theorem xm{α:Type}{l:List (List α)}{k:Nat}(h:k<l.length){x:List α}{a:α}(ha:a∈x):a∈(l.set k x).flatten:=by
 rw [List.mem_flatten];exact⟨x,List.mem_set h _,ha⟩
theorem fI{w:AU}(hw:Ho w){p:Ag}(hp:1<=p.At):CD (P4 w p)/\p∈(P4 w p).AP.flatten:=by
 obtain⟨k,hk,e⟩:=VJ hp;have h9:=hw.nine;have hf:=hw.few;unfold P4;rw [e,Int.toNat_natCast];have hk':k<w.AP.length:=by omega
 have h1:=Sd hk' (put ltP p (w.AP.getD k []));have h2:w.AP.getD k []=w.AP[k]:=by simp [List.getD,hk']
 rw [h2,GZ] at h1;refine⟨⟨by dsimp only;rw [List.length_set];omega,by dsimp only;rw [h2];omega⟩,xm hk' (Lw.2 (.inl rfl))⟩
theorem Hz{w:AU}(hw:CD w)(p:Ag):Rm w p=some (LQ w p):=by
 unfold Rm Ro;rw [LY hw,AD,FF hw,AD,Bg];by_cases hB:FJ w=true
 .have hP:=B1.1 hB;rw [hB,BE,AO,BT];by_cases hp:p.At<1
  .rw [if_pos hp];unfold LQ;rw [if_neg];rintro⟨_,h2,_⟩;have:=JX h2;omega
  .rw [if_neg hp];obtain⟨hf,hm⟩:=fI hP (p:=p) (by omega);obtain⟨k,hk,e⟩:=VJ (n:=p.At) (by omega);have h9:=hP.nine;have hfw:=hP.few;have hk':k<w.AP.length:=by omega
   have h2:w.AP.getD k []=w.AP[k]:=by simp [List.getD,hk']
   have hsl:=Ir hk';have hws:(AU.mk (w.AP.set k (put ltP p w.AP[k])))=P4 w p:=by unfold P4;rw [e,Int.toNat_natCast,h2]
   simp only [e,Af hk',AD,NG (l:=w.AP[k]) (by unfold lim;omega) p,Int.toNat_natCast,hws,FF hf,LY hw,Bg];unfold LQ;cases hB2:FJ (P4 w p) with
   |false=>rw [A9,if_neg (by simp)]
   |true=>
    rw [BE,if_pos ⟨hB,(B1.1 hB2).pins p hm,rfl⟩]
 .have hB:FJ w=false:=by simpa using hB
  rw [hB,A9,AO,BE];unfold LQ;rw [hB,if_neg (by simp)]
theorem fG{w:AU}(hw:CD w)(p:Ag):CD (LQ w p).1:=by
 unfold LQ;split
 .rename_i h;exact(fI (B1.1 h.1) (JX h.2.1).1.1).1
 .exact hw
noncomputable def fE:List Ag->AU->AU×Bool
 | [],w=>(w,true)
 |p::ps,w=>if (LQ w p).2=true then fE ps (LQ w p).1 else (⟨[]⟩,false)
noncomputable def Zr(l:List Ag):AU×Bool:=fE l ⟨List.replicate 9 []⟩
theorem VT:CD ⟨List.replicate 9 []⟩:=by constructor <;> simp
end Lv.P
namespace Lv.P
open Lv Go
section
variable{α:Type}{lt:α->α->Bool}
theorem C8(a:α)(l:List α):BY lt (a::l)=put lt a (BY lt l):=rfl
theorem Tg(h:Swo lt)(ht:∀a b,lt a b=false->lt b a=false->a=b){l1 l2:List α}(hp:l1.Perm l2):BY lt l1=BY lt l2:=by
 induction hp with
 |nil=>rfl
 |cons x _ ih=>rw [C8,C8,ih]
 |swap x y l=>rw [C8,C8,C8,C8,ZH h ht]
 |trans _ _ ih1 ih2=>exact ih1.trans ih2
theorem dW{a:α}{l:List α}(h:∀b∈l,lt b a=false):put lt a l=a::l:=by
 cases l with
 |nil=>rfl
 |cons z l=>rw [put,if_neg (by rw [h z (List.mem_cons_self ..)];simp)]
theorem dX{a:α}:∀{l:List α},(∀b∈l,lt b a=true)->put lt a l=l++[a]
 | [],_=>rfl
 |z::l,h=>by
  rw [put,if_pos (h z (List.mem_cons_self ..)),dX fun b hb=>h b (List.mem_cons_of_mem _ hb)];rfl
theorem XI(h:Swo lt){a z:α}{l:List α}(hs:Srt lt (z::l))(hz:lt z a=false):∀b∈z::l,lt b a=false:=by
 intro b hb;rcases List.mem_cons.1 hb with rfl|hb
 .exact hz
 .have h1:=(List.pairwise_cons.1 hs).1 b hb;cases e:lt b a with
  |false=>rfl
  |true=>
   rcases h.neg b z a e with h2|h2
   .rw [h1] at h2;cases h2
   .rw [hz] at h2;cases h2
theorem mD(h:Swo lt)(a:α):∀{l:List α},Srt lt l->Srt lt (put lt a l)
 | [],_=>List.pairwise_singleton _ _
 |z::l,hs=>by
  rw [put];split
  .rename_i hz;refine List.pairwise_cons.2 ⟨?_,mD h a (List.pairwise_cons.1 hs).2⟩;intro b hb;rcases Lw.1 hb with rfl|hb
   .exact h.fO _ _ hz
   .exact(List.pairwise_cons.1 hs).1 b hb
  .rename_i hz;exact List.pairwise_cons.2 ⟨XI h hs (by simpa using hz),hs⟩
theorem Lj(h:Swo lt):∀l:List α,Srt lt (BY lt l)
 | []=>List.Pairwise.nil
 |a::l=>mD h a (Lj h l)
theorem JB(h:Swo lt)(q:α->Bool)(a:α):∀{l:List α},Srt lt l->(put lt a l).filter q=if q a=true then put lt a (l.filter q) else l.filter q
 | [],_=>by by_cases hq:q a=true <;> simp [put,hq]
 |z::l,hs=>by
  have ih:=JB h q a (List.pairwise_cons.1 hs).2;rw [put];split
  .rename_i hz;rw [List.filter_cons,ih,List.filter_cons];by_cases hq:q a=true <;> by_cases hqz:q z=true <;> simp [hq,hqz,put,hz]
  .rename_i hz;have habove:=XI h hs (by simpa using hz);rw [List.filter_cons];by_cases hq:q a=true
   .rw [if_pos hq,if_pos hq,dW];intro b hb;exact habove b (List.mem_filter.1 hb).1
   .rw [if_neg hq,if_neg hq]
theorem GV(h:Swo lt)(q:α->Bool):∀l:List α,(BY lt l).filter q=BY lt (l.filter q)
 | []=>rfl
 |a::l=>by
  rw [C8,JB h q a (Lj h l),GV h q l,List.filter_cons];by_cases hq:q a=true
  .rw [if_pos hq,if_pos hq,C8]
  .rw [if_neg hq,if_neg hq]
theorem IU(h:Swo lt):∀{l:List α},(l.Pairwise fun a b=>lt a b=true)->BY lt l=l
 | [],_=>rfl
 |a::l,hs=>by
  rw [C8,IU h (List.pairwise_cons.1 hs).2,dW];intro b hb;exact h.fO _ _ ((List.pairwise_cons.1 hs).1 b hb)
theorem Gu(h:Swo lt):∀{l:List α},(∀k (hk:k+1<l.length),lt l[k] l[k+1]=true)->l.Pairwise fun a b=>lt a b=true
 | [],_=>List.Pairwise.nil
 | [a],_=>List.pairwise_singleton _ _
 |a::b::l,hc=>by
  have ih:=Gu h (l:=b::l) fun k hk=>hc (k+1) (by simpa using hk)
  have h1:lt a b=true:=hc 0 (by simp);refine List.pairwise_cons.2 ⟨?_,ih⟩;intro c hcm;rcases List.mem_cons.1 hcm with rfl|hcm
  .exact h1
  .exact h.trans h1 ((List.pairwise_cons.1 ih).1 c hcm)
end
theorem OF{α β:Type}{f g:β->List α}:∀{l:List β},(∀i∈l,(f i).Sublist (g i))->(l.map f).flatten.Sublist (l.map g).flatten
 | [],_=>List.Sublist.slnil
 |i::l,h=>by
  simp only [List.map_cons,List.flatten_cons];exact(h i (List.mem_cons_self ..)).append (OF fun j hj=>h j (List.mem_cons_of_mem _ hj))
def CB(i:Nat)(p:Ag):Bool:=p.At.tmod 9==(i:Int)
theorem Cz{i:Nat}{p:Ag}:CB i p=true↔p.At.tmod 9=(i:Int):=by unfold CB;exact beq_iff_eq
theorem NH{w:AU}(hw:Ho w){i:Nat}(hi:i<w.AP.length):(w.AP.flatten).filter (CB i)=w.AP[i]:=by
 have hin:∀j (hj:j<w.AP.length),∀p∈w.AP[j],p.At.tmod 9=(j:Int):=by
  intro j hj p hp;obtain⟨k,hk,rfl⟩:=List.mem_iff_getElem.1 hp;exact hw.at_ j hj k hk
 have e:w.AP.flatten=(w.AP.take i).flatten++(w.AP[i]++(w.AP.drop (i+1)).flatten):=by
  conv=>lhs;rw [<-List.take_append_drop i w.AP,List.drop_eq_getElem_cons hi]
  simp only [List.flatten_append,List.flatten_cons]
 have h1:((w.AP.take i).flatten).filter (CB i)=[]:=by
  rw [List.filter_eq_nil_iff];intro p hp;obtain⟨s,hs,hps⟩:=List.mem_flatten.1 hp;obtain⟨j,hj,rfl⟩:=List.mem_iff_getElem.1 hs;rw [List.length_take] at hj;rw [List.getElem_take] at hps;rw [Cz,hin j (by omega) p hps];omega
 have h2:((w.AP.drop (i+1)).flatten).filter (CB i)=[]:=by
  rw [List.filter_eq_nil_iff];intro p hp;obtain⟨s,hs,hps⟩:=List.mem_flatten.1 hp;obtain⟨j,hj,rfl⟩:=List.mem_iff_getElem.1 hs;rw [List.length_drop] at hj;rw [List.getElem_drop] at hps;rw [Cz,hin (i+1+j) (by omega) p hps];omega
 have h3:(w.AP[i]).filter (CB i)=w.AP[i]:=by
  rw [List.filter_eq_self];intro p hp;rw [Cz];exact hin i hi p hp
 rw [e,List.filter_append,List.filter_append,h1,h2,h3];simp
def LP(S:List Ag)(j:Nat):AU:=⟨(List.range 9).map fun i=>(S.take j).filter (CB i)⟩
theorem P3{w:AU}(hw:Ho w):w=⟨(List.range 9).map fun i=>(BY ltP w.AP.flatten).filter (CB i)⟩:=by
 have h9:=hw.nine;cases w with
 |mk sp=>
  congr 1;dsimp only at h9 hw ⊢;apply List.ext_getElem
  .simp [h9]
  .intro i h1 h2;rw [List.getElem_map,List.getElem_range,GV CP,NH hw h1];exact(IU CP (Gu CP (hw.srt i h1))).symm
theorem sn{w:AU}(hw:Ho w)(j:Nat):Ho (LP (BY ltP w.AP.flatten) j):=by
 have hsub:(LP (BY ltP w.AP.flatten) j).AP.flatten.Sublist w.AP.flatten:=by
  conv=>rhs;rw [P3 hw]
  exact OF fun i _=>(List.take_sublist _ _).filter _
 have hsp:∀i (h:i<(LP (BY ltP w.AP.flatten) j).AP.length),(LP (BY ltP w.AP.flatten) j).AP[i]=((BY ltP w.AP.flatten).take j).filter (CB i):=by
  intro i h;simp only [LP,List.getElem_map,List.getElem_range]
 have hstr:∀i,i<9->(((BY ltP w.AP.flatten).take j).filter (CB i)).Pairwise fun a b=>ltP a b=true:=by
  intro i hi;have h1:i<w.AP.length:=by rw [hw.nine];exact hi
  have h2:((BY ltP w.AP.flatten).filter (CB i))=w.AP[i]:=by
   rw [GV CP,NH hw h1];exact IU CP (Gu CP (hw.srt i h1))
  refine List.Pairwise.sublist ((List.take_sublist _ _).filter _) ?_;rw [h2];exact Gu CP (hw.srt i h1)
 refine⟨by simp [LP],Nat.le_trans hsub.length_le hw.few,fun p hp=>hw.pins p (hsub.subset hp),hw.ids.sublist hsub,?_,?_⟩
 .intro i h k hk;have hm:(LP (BY ltP w.AP.flatten) j).AP[i][k]∈(LP (BY ltP w.AP.flatten) j).AP[i]:=List.getElem_mem hk;have hall:∀p∈(LP (BY ltP w.AP.flatten) j).AP[i],CB i p=true:=by
   rw [hsp i h];intro p hp;exact(List.mem_filter.1 hp).2
  exact Cz.1 (hall _ hm)
 .intro i h k hk;have h9:i<9:=by simpa [LP] using h
  have:=List.pairwise_iff_getElem.1 (hstr i h9) k (k+1) (by rw [<-hsp i h];omega) (by rw [<-hsp i h];exact hk) (by omega);simpa only [hsp i h] using this
theorem vR{w:AU}(hw:Ho w){j:Nat}(hj:j<(BY ltP w.AP.flatten).length):P4 (LP (BY ltP w.AP.flatten) j) (BY ltP w.AP.flatten)[j]=LP (BY ltP w.AP.flatten) (j+1):=by
 have hpm:(BY ltP w.AP.flatten)[j]∈w.AP.flatten:=IV.1 (List.getElem_mem hj);obtain⟨k,hk,e⟩:=VJ (JX (hw.pins _ hpm)).1.1;have hstr:(BY ltP w.AP.flatten).Pairwise fun a b=>ltP b a=false:=Lj CP _
 have e2:(BY ltP w.AP.flatten).take (j+1)=(BY ltP w.AP.flatten).take j++[(BY ltP w.AP.flatten)[j]]:=by rw [List.take_add_one,List.getElem?_eq_getElem hj];rfl
 generalize hS:BY ltP w.AP.flatten=S at *;have hput:∀(q:Ag->Bool),q S[j]=true->(∀b∈(S.take j).filter q,ltP b S[j]=true)->put ltP S[j] ((S.take j).filter q)=(S.take (j+1)).filter q:=by
  intro q hq hall;rw [dX hall,e2,List.filter_append];simp [hq]
 have hlt:∀b∈(S.take j).filter (CB k),ltP b S[j]=true:=by
  intro b hb;have h9:k<w.AP.length:=by rw [hw.nine];exact hk
  have h2:S.filter (CB k)=w.AP[k]:=by
   rw [<-hS,GV CP,NH hw h9];exact IU CP (Gu CP (hw.srt k h9))
  have h3:((S.take (j+1)).filter (CB k)).Pairwise fun a b=>ltP a b=true:=by
   refine List.Pairwise.sublist ((List.take_sublist _ _).filter _) ?_;rw [h2];exact Gu CP (hw.srt k h9)
  rw [e2,List.filter_append] at h3;have h4:([S[j]]:List Ag).filter (CB k)=[S[j]]:=by simp [Cz.2 e]
  rw [h4] at h3;exact(List.pairwise_append.1 h3).2.2 b hb _ (List.mem_singleton.2 rfl)
 unfold P4 LP;rw [e,Int.toNat_natCast];congr 1;apply List.ext_getElem
 .simp
 .intro i h1 h2;have hi:i<9:=by simpa using h2
  rw [List.getElem_set];have hD:(((List.range 9).map fun i=>(S.take j).filter (CB i)).getD k [])=(S.take j).filter (CB k):=by simp [List.getD,hk]
  split
  .rename_i hki;subst hki;rw [hD,hput _ (Cz.2 e) hlt];simp
  .rename_i hki;simp only [List.getElem_map,List.getElem_range];rw [e2,List.filter_append];have:([S[j]]:List Ag).filter (CB i)=[]:=by
    have hn:CB i S[j]=false:=by
     cases h:CB i S[j] with
     |false=>rfl
     |true=>rw [Cz,e] at h;omega
    simp [hn]
   rw [this,List.append_nil]
theorem Vl{w:AU}(hw:Ho w):Zr (BY ltP w.AP.flatten)=(w,true):=by
 have key:∀m j,j+m=(BY ltP w.AP.flatten).length->fE ((BY ltP w.AP.flatten).drop j) (LP (BY ltP w.AP.flatten) j)=(w,true):=by
  intro m
  induction m with
  |zero=>
   intro j hj;rw [List.drop_eq_nil_of_le (by omega),fE];unfold LP;rw [List.take_of_length_le (by omega),<-P3 hw]
  |succ m ih=>
   intro j hj;have hj':j<(BY ltP w.AP.flatten).length:=by omega
   have hp:LQ (LP (BY ltP w.AP.flatten) j) (BY ltP w.AP.flatten)[j]=(LP (BY ltP w.AP.flatten) (j+1),true):=by
    unfold LQ;rw [vR hw hj',if_pos];exact⟨B1.2 (sn hw j),hw.pins _ (IV.1 (List.getElem_mem hj')),B1.2 (sn hw (j+1))⟩
   rw [Ch hj',fE,hp,if_pos rfl];exact ih (j+1) (by omega)
 have:=key (BY ltP w.AP.flatten).length 0 (by omega);rw [List.drop_zero] at this;exact this
end Lv.P
namespace Lv.P
open Lv Go
def Good(h:AA)(l:List Int):Prop:=C7 h=true/\Ar h/\lk h=l
def vS:AN:=⟨[],0,0,0,0,0,0,0,0⟩
def VV:AA:=⟨vS,0,0,[],[],[],[]⟩
def Red(l:List Int)(r:AA×Bool):Prop:=(r.2=true->Good r.1 l/\∀h,Good h l->h=r.1)/\(r.2=false->r.1=VV/\∀h,¬Good h l)
theorem Red.one{l:List Int}{r r':AA×Bool}(h:Red l r)(h':Red l r'):r=r':=by
 obtain⟨g,b⟩:=r;obtain⟨g',b'⟩:=r';obtain⟨h1,h2⟩:=h;obtain⟨h3,h4⟩:=h';dsimp only at h1 h2 h3 h4;cases b <;> cases b'
 .rw [(h2 rfl).1,(h4 rfl).1]
 .exact((h2 rfl).2 _ (h3 rfl).1).elim
 .exact((h4 rfl).2 _ (h1 rfl).1).elim
 .rw [(h1 rfl).2 _ (h3 rfl).1]
theorem Red.bad{l:List Int}(h:∀h,¬Good h l):Red l (VV,false):=⟨fun h=>(by cases h),fun _=>⟨rfl,h⟩⟩
def fr(c:AZ):Int:=c.AM.Co
def up(x:Int):Int:=w64 (x+1)
noncomputable def yR(r:AN)(ps:List AH)(now:Int)(i:Nat)(free:Int):AZ:=
 ⟨⟨r.AM.getD i 0,free,FM ps i,w64 (w64 (r.AM.getD i 0-free)-FM ps i),FH ps i⟩,Bn r ps i now,(Zr (Dc ps i)).1⟩
theorem vN{t:List Int}{n:Nat}(hn:n<=4)(h:EV t n=true):t.length<=n:=by
 by_cases hc:t.length<=n
 .exact hc
 .exfalso;have hall:∀k (hk:k<t.length),0<=t[k]/\t[k]<n/\∀j (hj:j<k),t[j]≠t[k]:=by
   intro k hk;have h1:=GN.1 h k hk;unfold P0 at h1;rw [BB hk,Bool.and_eq_true,BH,Ai (by omega) (by omega)] at h1;refine⟨h1.1.1,by omega,fun j hj e=>?_⟩;have h2:=h1.2;simp only [Bool.not_eq_true',List.any_eq_false,beq_iff_eq] at h2;refine h2 t[j] ?_ e;rw [List.mem_iff_getElem];exact⟨j,by rw [List.length_take];omega,by rw [List.getElem_take]⟩
  have h0:=hall 0 (by omega)
  match n,hn,hc,hall with
  |0,_,hc,hall=>have:=hall 0 (by omega);omega
  |1,_,hc,hall=>
   have a0:=hall 0 (by omega);have a1:=hall 1 (by omega);have:=a1.2.2 0 (by omega);omega
  |2,_,hc,hall=>
   have a0:=hall 0 (by omega);have a1:=hall 1 (by omega);have a2:=hall 2 (by omega);have:=a1.2.2 0 (by omega);have:=a2.2.2 0 (by omega);have:=a2.2.2 1 (by omega);omega
  |3,_,hc,hall=>
   have a0:=hall 0 (by omega);have a1:=hall 1 (by omega);have a2:=hall 2 (by omega);have a3:=hall 3 (by omega);have:=a1.2.2 0 (by omega);have:=a2.2.2 0 (by omega);have:=a2.2.2 1 (by omega);have:=a3.2.2 0 (by omega);have:=a3.2.2 1 (by omega);have:=a3.2.2 2 (by omega);omega
  |4,_,hc,hall=>
   have a0:=hall 0 (by omega);have a1:=hall 1 (by omega);have a2:=hall 2 (by omega);have a3:=hall 3 (by omega);have a4:=hall 4 (by omega);have:=a1.2.2 0 (by omega);have:=a2.2.2 0 (by omega);have:=a2.2.2 1 (by omega);have:=a3.2.2 0 (by omega);have:=a3.2.2 1 (by omega);have:=a3.2.2 2 (by omega);have:=a4.2.2 0 (by omega);have:=a4.2.2 1 (by omega);have:=a4.2.2 2 (by omega);have:=a4.2.2 3 (by omega);omega
structure ABo(h:AA):Prop where
 rules:DY h.AG=true
 Cl:1<=h.AG.AM.length/\h.AG.AM.length<=4
 ACU:1<=h.AG.Cc/\h.AG.Cc<=3
 few:h.AB.length<=40
 par:∀i (hi:i<h.AB.length),Bc h.AG h.AB[i] h.Now=true
 B2:h.AE.length=h.AG.AM.length
 cab:∀i (hi:i<h.AE.length),h.AE[i]=yR h.AG h.AB h.Now i (fr h.AE[i])/\0<=fr h.AE[i]/\fr h.AE[i]<=h.AG.AM.getD i 0/\Bk h.AB i<=10
 todo:h.AW.length<=h.AG.AM.length
 K8:(h.AS.length:Int)=h.AG.Cc
 job:∀x∈h.AS,-1<=x/\x<4
theorem ZD{w:AU}(hw:FJ w=true):(Zr (Dn w)).1=w:=by
 unfold Dn;rw [if_pos hw,Vl (B1.1 hw)]
theorem AAE{h:AA}(hb:C7 h=true):ABo h:=by
 obtain⟨h1,h2,h3,h4,h5,h6,h7,h8,h9,h10⟩:=Wh hb;have hr:=BN h1;have hcrew:1<=h.AG.Cc/\h.AG.Cc<=3:=hr.2.2.2.2.2.2.2.2.2;refine⟨h1,hr.1,hcrew,h4,?_,h5,?_,?_,h9,?_⟩
 .intro i hi;have:=GN.1 h6 i hi;unfold Wu at this;rw [BB hi,Bool.and_eq_true] at this;exact this.1
 .intro i hi;have hs:i<h.AG.AM.length:=by omega
  have hk:=GN.1 h10 i hi;unfold Vv at hk;rw [BB hi,BB hs] at hk;unfold Iw Ox CO at hk;simp only [Bool.and_eq_true,beq_iff_eq,BH,Bool.not_eq_true',decide_eq_false_iff_not,Fk YV,Fk YX] at hk;obtain⟨k1,⟨⟨⟨l1,l2,l3,l4,l5,l6⟩,k3,k4⟩,k5,k6,k7,k8⟩,k9⟩:=hk;have hD:h.AG.AM.getD i 0=h.AG.AM[i]:=by simp [List.getD,hs]
  have hroom:=hr.2.2.1;have hw:=ZD k4;rw [k6] at hw;unfold yR fr;rw [hD,<-k5,<-k7,<-k8,<-k1,hw];generalize h.AE[i]=c at *;obtain⟨⟨t,f,hd,s,td⟩,row,wh⟩:=c;dsimp only at *;have e1:w64 (f+hd)=f+hd:=Ai (by omega) (by omega);have e2:w64 (f+hd+s)=f+hd+s:=Ai (by omega) (by omega);rw [e1,e2] at l5;have e3:w64 (t-f)=t-f:=Ai (by omega) (by omega);have e4:w64 (t-f-hd)=t-f-hd:=Ai (by omega) (by omega);rw [e3,e4];refine⟨?_,l2.1,l2.2,by omega⟩;congr 2;omega
 .have:=vN (by omega) h7;omega
 .intro x hx;have:=List.all_eq_true.1 h8 x hx;rw [BH,Ai (by omega) (by omega)] at this;omega
end Lv.P
namespace Lv.P
open Lv Go
def rd(l:List Int)(k:Nat)(b:Bool):J2:=⟨l,(k:Int),b⟩
section spec
variable{l:List Int}(hl:l.length<=1048576){R:AN×Bool}{now Dt:Int}
include hl
end spec
end Lv.P
