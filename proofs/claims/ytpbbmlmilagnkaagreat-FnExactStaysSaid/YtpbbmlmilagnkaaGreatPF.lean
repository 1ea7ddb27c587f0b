/-
  Plain laws: a pin is put into a wheel; the wheel of a row of pins.
-/
import Derived.Test.YtpbbmlmilagnkaaGreatKD
import Derived.Test.YtpbbmlmilagnkaaGreatPE
import Derived.Test.YtpbbmlmilagnkaaGreatPC
noncomputable section
set_option linter.unusedVariables false
set_option linter.unusedSimpArgs false
set_option linter.unusedSectionVars false
open Bool renaming and_eq_true->AD,not_eq_true'->Az
open Int renaming toNat_natCast->AX
open List renaming ext_getElem->IK,filter_append->HW,filter_cons->Dz,flatten_cons->Dk,getElem_map->IL,getElem_mem->Am,getElem_range->HY,mem_cons->Ac,mem_cons_of_mem->Ag,mem_cons_self->BG,mem_flatten->D1,mem_iff_getElem->Eu,pairwise_cons->BA,pairwise_singleton->F7,take_sublist->Fg
open Nat renaming le_refl->A2
namespace Lv.P
open Lv Go
def VD(w:Ah)(p:AY):Ah:=⟨w.Aa.set (p.At.tmod 9).toNat (put ltP p (w.Aa.getD (p.At.tmod 9).toNat []))⟩
def SN(w:Ah)(p:AY):Ah×Bool:=if FI w=true/\OI p=true/\FI (VD w p)=true then (VD w p,true) else (w,false)
theorem Ld{p:AY}(h:OI p=true):(1<=p.At/\p.At<=1000008)/\1<=p.Id/\p.Id<=999:=by
 grind[OI,CI]
theorem U6{n:Int}(h:1<=n):∃k:Nat,k<9/\n.tmod 9=(k:Int):=by
 obtain⟨m,rfl⟩:=Int.eq_ofNat_of_zero_le (show 0<=n by omega);refine⟨m % 9,Nat.mod_lt _ (by omega),?_⟩;rw[Int.tmod_eq_emod_of_nonneg (by omega)];rfl
theorem xB{α:Type}{l:List (List α)}{k:Nat}(h:k<l.length)(x:List α):(l.set k x).flatten.length+l[k].length=l.flatten.length+x.length:=by
 grind[List.set_eq_take_append_cons_drop,List.take_append_drop,List.drop_eq_getElem_cons,List.flatten_append,List.flatten_cons,List.length_append]
theorem ARO{α:Type}{l:List (List α)}{k:Nat}(h:k<l.length){x:List α}{a:α}(ha:a∈x):a∈(l.set k x).flatten:=by
 rw[D1];exact⟨x,List.mem_set h _,ha⟩
theorem y4{w:Ah}(hw:Lp w){p:AY}(hp:1<=p.At):DK (VD w p)/\p∈(VD w p).Aa.flatten:=by
 obtain⟨k,hk,e⟩:=U6 hp;have h9:=hw.nine;have hf:=hw.few;unfold VD;rw[e,AX];have hk':k<w.Aa.length:=by omega
 have h1:=xB hk' (put ltP p (w.Aa.getD k []));have h2:w.Aa.getD k []=w.Aa[k]:=by simp[List.getD,hk']
 rw[h2,Em]at h1;refine⟨⟨by dsimp only;rw[List.length_set];omega,by dsimp only;rw[h2];omega⟩,ARO hk' (QQ.2 (.inl rfl))⟩
theorem iu{w:Ah}(hw:DK w)(p:AY):af w p=some (SN w p):=by
 unfold af ag;rw[P5 hw,AF,GY hw,AF,BI];by_cases hB:FI w=true
 .have hP:=DU.1 hB;rw[hB,BW,AW,Bl];by_cases hp:p.At<1
  .rw[if_pos hp];unfold SN;rw[if_neg];rintro⟨_,h2,_⟩;have:=Ld h2;omega
  .rw[if_neg hp];obtain⟨hf,hm⟩:=y4 hP (p:=p) (by omega);obtain⟨k,hk,e⟩:=U6 (n:=p.At) (by omega);have h9:=hP.nine;have hfw:=hP.few;have hk':k<w.Aa.length:=by omega
   have h2:w.Aa.getD k []=w.Aa[k]:=by simp[List.getD,hk']
   have hsl:=HR hk';have hws:(Ah.mk (w.Aa.set k (put ltP p w.Aa[k])))=VD w p:=by unfold VD;rw[e,AX,h2]
   simp only[e,A5 hk',AF,SE (l:=w.Aa[k]) (by unfold lim;omega) p,AX,hws,GY hf,P5 hw,BI];unfold SN;cases hB2:FI (VD w p) with
   |false=>rw[BV,if_neg (by simp)]|true=>
    rw[BW,if_pos ⟨hB,(DU.1 hB2).pins p hm,rfl⟩]
 grind[FI,BV,AW,BW,SN]
theorem ib{w:Ah}(hw:DK w)(p:AY):vL w p=some (SN w p):=by
 unfold vL ai;rw[P4 hw,AF,GW hw,AF,BI];by_cases hB:FI w=true
 .have hP:=DU.1 hB;rw[hB,BW,Rp,AF,AW,BI];cases hp:OI p with
  |false=>
   rw[BV];unfold SN;rw[hp,if_neg (by simp)]
  |true=>
   have hp1:=(Ld hp).1.1;rw[BW];obtain⟨hf,hm⟩:=y4 hP hp1;obtain⟨k,hk,e⟩:=U6 hp1;have h9:=hP.nine;have hfw:=hP.few;have hk':k<w.Aa.length:=by omega
   have h2:w.Aa.getD k []=w.Aa[k]:=by simp[List.getD,hk']
   have hsl:=HR hk';have hws:(Ah.mk (w.Aa.set k (put ltP p w.Aa[k])))=VD w p:=by unfold VD;rw[e,AX,h2]
   have hj4:∀i:Nat,i<=w.Aa[k].length->∀s:List AY,s=w.Aa[k].take i++p::w.Aa[k].drop i->aj w p w w.Aa[k] (i:Int)=(bd (Of (Ah.mk (w.Aa.set k s))) fun x=>br (!x) (some (w,false)) (some (Ah.mk (w.Aa.set k s),true))):=by
    intro i hi s hs;have hins:ARl w.Aa[k] (i:Int) [p]=@some (C.l (.st 5)).D s:=by
     show ic (.st 5) w.Aa[k] (i:Int) [p]=some s;have hc:(0:Int)<=i/\(i:Int).toNat<=w.Aa[k].length/\[p]≠([]:List AY)/\w.Aa[k].length+[p].length<=lim:=⟨by omega,by simpa using hi,by simp,by rw[KK];unfold lim;omega⟩;unfold ic;refine(if_pos hc).trans ?_;rw[hs,AX];congr 1;exact List.append_assoc _ _ _
    unfold aj;have hh:Y.L0 k 0 [U.sl (C.st 5) s].length [(k,0)]:=⟨rfl,⟨A2 _,by simp⟩,trivial⟩;rw[hins];refine(AF (α:=List AY) s _).trans ?_;simp only[e,A5 hk',AF,AX,DB hh,P4 hw]
   simp only[e,A5 hk',AF];have hloop:=Po (lt:=ltP) (F:=Tr w p w w.Aa[k]) (l:=w.Aa[k]) (x:=p) (fun s=>bd (Of (Ah.mk (w.Aa.set k s))) fun x=>br (!x) (some (w,false)) (some (Ah.mk (w.Aa.set k s),true))) (by omega) ?_ ?_
   .rw[hloop,hws,GW hf,AF,BI];unfold SN;cases hB2:FI (VD w p) with|false=>rw[BV,if_neg (by simp)]|true=>rw[BW,if_pos ⟨hB,hp,rfl⟩]
   .intro L i hi;unfold Tr Tq;obtain⟨c,hc,hc2,_⟩:=QH w.Aa[k][i] p;rw[A3 hi,BW,A5 hi,AF,hc,AF,AW,hc2,AW,hj4 i (by omega) _ rfl]
   .intro L;unfold Tr Tq;rw[Cw,BV,AW,BV,AW,hj4 _ (A2 _) (w.Aa[k]++[p]) (by simp)]
 grind[FI,BV,AW,BW,SN]
def y1:List AY->Ah->Ah×Bool| [],w=>(w,true)|p::ps,w=>if (SN w p).2=true then y1 ps (SN w p).1 else (⟨[]⟩,false)
def rF(l:List AY):Ah×Bool:=y1 l ⟨List.replicate 9 []⟩
end Lv.P
namespace Lv.P
open Lv Go
section
variable{α:Type}{lt:α->α->Bool}
theorem Fi(a:α)(l:List α):Cm lt (a::l)=put lt a (Cm lt l):=rfl
theorem eV(h:Swo lt)(ht:∀a b,lt a b=false->lt b a=false->a=b){l1 l2:List α}(hp:l1.Perm l2):Cm lt l1=Cm lt l2:=by
 induction hp with
 |nil=>rfl|cons x _ ih=>rw[Fi,Fi,ih]|swap x y l=>rw[Fi,Fi,Fi,Fi,po h ht]|trans _ _ ih1 ih2=>exact ih1.trans ih2
theorem yC{a:α}{l:List α}(h:∀b∈l,lt b a=false):put lt a l=a::l:=by
 cases l with
 |nil=>rfl|cons z l=>rw[put,if_neg (by rw[h z (BG ..)];simp)]
theorem yD{a:α}:∀{l:List α},(∀b∈l,lt b a=true)->put lt a l=l++[a]
 | [],_=>rfl|z::l,h=>by
  rw[put,if_pos (h z (BG ..)),yD fun b hb=>h b (Ag _ hb)];rfl
theorem mD(h:Swo lt){a z:α}{l:List α}(hs:Srt lt (z::l))(hz:lt z a=false):∀b∈z::l,lt b a=false:=by
 intro b hb;rcases Ac.1 hb with rfl|hb
 .exact hz
 .have h1:=(BA.1 hs).1 b hb;cases e:lt b a with
  |false=>rfl|true=>
   rcases h.neg b z a e with h2|h2
   .rw[h1]at h2;cases h2
   .rw[hz]at h2;cases h2
theorem AGb(h:Swo lt)(a:α):∀{l:List α},Srt lt l->Srt lt (put lt a l)
 | [],_=>F7 _ _|z::l,hs=>by
  rw[put];split
  .rename_i hz;refine BA.2 ⟨?_,AGb h a (BA.1 hs).2⟩;intro b hb;rcases QQ.1 hb with rfl|hb
   .exact h.mT _ _ hz
   .exact(BA.1 hs).1 b hb
  .rename_i hz;exact BA.2 ⟨mD h hs (by simpa using hz),hs⟩
theorem QI(h:Swo lt):∀l:List α,Srt lt (Cm lt l)| []=>List.Pairwise.nil|a::l=>AGb h a (QI h l)
theorem RZ(h:Swo lt)(q:α->Bool)(a:α):∀{l:List α},Srt lt l->(put lt a l).filter q=if q a=true then put lt a (l.filter q) else l.filter q
 | [],_=>by by_cases hq:q a=true<;>simp[put,hq]|z::l,hs=>by
  have ih:=RZ h q a (BA.1 hs).2;rw[put];split
  .grind[put]
  .rename_i hz;have habove:=mD h hs (by simpa using hz);rw[Dz]
   grind[yC]
theorem KH(h:Swo lt)(q:α->Bool):∀l:List α,(Cm lt l).filter q=Cm lt (l.filter q)
 | []=>rfl|a::l=>by
  rw[Fi,RZ h q a (QI h l),KH h q l,Dz]
  grind[Fi]
theorem M1(h:Swo lt):∀{l:List α},(l.Pairwise fun a b=>lt a b=true)->Cm lt l=l
 | [],_=>rfl|a::l,hs=>by
  rw[Fi,M1 h (BA.1 hs).2,yC];intro b hb;exact h.mT _ _ ((BA.1 hs).1 b hb)
theorem Ki(h:Swo lt):∀{l:List α},(∀k (hk:k+1<l.length),lt l[k] l[k+1]=true)->l.Pairwise fun a b=>lt a b=true
 | [],_=>List.Pairwise.nil| [a],_=>F7 _ _|a::b::l,hc=>by
  have ih:=Ki h (l:=b::l) fun k hk=>hc (k+1) (by simpa using hk)
  have h1:lt a b=true:=hc 0 (by simp);refine BA.2 ⟨?_,ih⟩;intro c hcm;rcases Ac.1 hcm with rfl|hcm
  .exact h1
  .exact h.trans h1 ((BA.1 ih).1 c hcm)
end
theorem UR{α β:Type}{f g:β->List α}:∀{l:List β},(∀i∈l,(f i).Sublist (g i))->(l.map f).flatten.Sublist (l.map g).flatten
 | [],_=>List.Sublist.slnil|i::l,h=>by
  simp only[List.map_cons,Dk];exact(h i (BG ..)).append (UR fun j hj=>h j (Ag _ hj))
def Ea(i:Nat)(p:AY):Bool:=p.At.tmod 9==(i:Int)
theorem GC{i:Nat}{p:AY}:Ea i p=true↔p.At.tmod 9=(i:Int):=by unfold Ea;exact beq_iff_eq
theorem SG{w:Ah}(hw:Lp w){i:Nat}(hi:i<w.Aa.length):(w.Aa.flatten).filter (Ea i)=w.Aa[i]:=by
 have hin:∀j (hj:j<w.Aa.length),∀p∈w.Aa[j],p.At.tmod 9=(j:Int):=by
  intro j hj p hp;obtain⟨k,hk,rfl⟩:=Eu.1 hp;exact hw.at_ j hj k hk
 have e:w.Aa.flatten=(w.Aa.take i).flatten++(w.Aa[i]++(w.Aa.drop (i+1)).flatten):=by
  conv=>lhs;rw[<-List.take_append_drop i w.Aa,List.drop_eq_getElem_cons hi]
  simp only[List.flatten_append,Dk]
 have h1:((w.Aa.take i).flatten).filter (Ea i)=[]:=by
  grind[List.filter_eq_nil_iff,List.mem_flatten,List.mem_iff_getElem,List.length_take,GC]
 have h2:((w.Aa.drop (i+1)).flatten).filter (Ea i)=[]:=by
  rw[List.filter_eq_nil_iff];intro p hp;obtain⟨s,hs,hps⟩:=D1.1 hp;obtain⟨j,hj,rfl⟩:=Eu.1 hs
  grind[List.length_drop,GC]
 grind[Ea,List.filter_eq_self,GC]
def SM(S:List AY)(j:Nat):Ah:=⟨(List.range 9).map fun i=>(S.take j).filter (Ea i)⟩
theorem Wv{w:Ah}(hw:Lp w):w=⟨(List.range 9).map fun i=>(Cm ltP w.Aa.flatten).filter (Ea i)⟩:=by
 have h9:=hw.nine;cases w with
 |mk sp=>
  congr 1;dsimp only at h9 hw ⊢;apply IK
  .simp[h9]
  .intro i h1 h2;rw[IL,HY,KH ED,SG hw h1];exact(M1 ED (Ki ED (hw.srt i h1))).symm
theorem AN2{w:Ah}(hw:Lp w)(j:Nat):Lp (SM (Cm ltP w.Aa.flatten) j):=by
 have hsub:(SM (Cm ltP w.Aa.flatten) j).Aa.flatten.Sublist w.Aa.flatten:=by
  conv=>rhs;rw[Wv hw]
  exact UR fun i _=>(Fg _ _).filter _
 have hsp:∀i (h:i<(SM (Cm ltP w.Aa.flatten) j).Aa.length),(SM (Cm ltP w.Aa.flatten) j).Aa[i]=((Cm ltP w.Aa.flatten).take j).filter (Ea i):=by
  intro i h;simp only[SM,IL,HY]
 have hstr:∀i,i<9->(((Cm ltP w.Aa.flatten).take j).filter (Ea i)).Pairwise fun a b=>ltP a b=true:=by
  intro i hi;have h1:i<w.Aa.length:=by rw[hw.nine];exact hi
  have h2:((Cm ltP w.Aa.flatten).filter (Ea i))=w.Aa[i]:=by
   rw[KH ED,SG hw h1];exact M1 ED (Ki ED (hw.srt i h1))
  refine List.Pairwise.sublist ((Fg _ _).filter _) ?_;rw[h2];exact Ki ED (hw.srt i h1)
 refine⟨by simp[SM],Nat.le_trans hsub.length_le hw.few,fun p hp=>hw.pins p (hsub.subset hp),hw.ids.sublist hsub,?_,?_⟩
 .grind[SM,Cm,ltP,List.getElem_mem,Ea,GC]
 grind[SM,List.pairwise_iff_getElem]
theorem APt{w:Ah}(hw:Lp w){j:Nat}(hj:j<(Cm ltP w.Aa.flatten).length):VD (SM (Cm ltP w.Aa.flatten) j) (Cm ltP w.Aa.flatten)[j]=SM (Cm ltP w.Aa.flatten) (j+1):=by
 have hpm:(Cm ltP w.Aa.flatten)[j]∈w.Aa.flatten:=M4.1 (Am hj);obtain⟨k,hk,e⟩:=U6 (Ld (hw.pins _ hpm)).1.1;have hstr:(Cm ltP w.Aa.flatten).Pairwise fun a b=>ltP b a=false:=QI ED _
 have e2:(Cm ltP w.Aa.flatten).take (j+1)=(Cm ltP w.Aa.flatten).take j++[(Cm ltP w.Aa.flatten)[j]]:=by rw[List.take_add_one,List.getElem?_eq_getElem hj];rfl
 generalize hS:Cm ltP w.Aa.flatten=S at *;have hput:∀(q:AY->Bool),q S[j]=true->(∀b∈(S.take j).filter q,ltP b S[j]=true)->put ltP S[j] ((S.take j).filter q)=(S.take (j+1)).filter q:=by
  intro q hq hall;rw[yD hall,e2,HW];simp[hq]
 have hlt:∀b∈(S.take j).filter (Ea k),ltP b S[j]=true:=by
  intro b hb;have h9:k<w.Aa.length:=by rw[hw.nine];exact hk
  have h2:S.filter (Ea k)=w.Aa[k]:=by
   rw[<-hS,KH ED,SG hw h9];exact M1 ED (Ki ED (hw.srt k h9))
  have h3:((S.take (j+1)).filter (Ea k)).Pairwise fun a b=>ltP a b=true:=by
   refine List.Pairwise.sublist ((Fg _ _).filter _) ?_;rw[h2];exact Ki ED (hw.srt k h9)
  rw[e2,HW]at h3;have h4:([S[j]]:List AY).filter (Ea k)=[S[j]]:=by simp[GC.2 e]
  rw[h4]at h3;exact(List.pairwise_append.1 h3).2.2 b hb _ (List.mem_singleton.2 rfl)
 unfold VD SM;rw[e,AX];congr 1;apply IK
 .simp
 .intro i h1 h2;have hi:i<9:=by simpa using h2
  rw[List.getElem_set];have hD:(((List.range 9).map fun i=>(S.take j).filter (Ea i)).getD k [])=(S.take j).filter (Ea k):=by simp[List.getD,hk]
  split
  .rename_i hki;subst hki;rw[hD,hput _ (GC.2 e) hlt];simp
  .grind[AY,Ea,GC]
theorem iy{w:Ah}(hw:Lp w):rF (Cm ltP w.Aa.flatten)=(w,true):=by
 have key:∀m j,j+m=(Cm ltP w.Aa.flatten).length->y1 ((Cm ltP w.Aa.flatten).drop j) (SM (Cm ltP w.Aa.flatten) j)=(w,true):=by
  intro m
  induction m with
  |zero=>
   grind[List.drop_eq_nil_of_le,y1,SM,List.take_of_length_le,Wv]
  |succ m ih=>
   intro j hj;have hj':j<(Cm ltP w.Aa.flatten).length:=by omega
   have hp:SN (SM (Cm ltP w.Aa.flatten) j) (Cm ltP w.Aa.flatten)[j]=(SM (Cm ltP w.Aa.flatten) (j+1),true):=by
    unfold SN;rw[APt hw hj',if_pos];exact⟨DU.2 (AN2 hw j),hw.pins _ (M4.1 (Am hj')),DU.2 (AN2 hw (j+1))⟩
   rw[Ec hj',y1,hp,if_pos rfl];exact ih (j+1) (by omega)
 have:=key (Cm ltP w.Aa.flatten).length 0 (by omega);rw[List.drop_zero]at this;exact this
end Lv.P
namespace Lv.P
open Lv Go
def Good(h:AE)(l:List Int):Prop:=EC h=true/\Ba h/\AGS h=l
def APu:AV:=⟨[],0,0,0,0,0,0,0,0⟩
def iF:AE:=⟨APu,0,0,[],[],[],[]⟩
def Red(l:List Int)(r:AE×Bool):Prop:=(r.2=true->Good r.1 l/\∀h,Good h l->h=r.1)/\(r.2=false->r.1=iF/\∀h,¬Good h l)
theorem Red.one{l:List Int}{r r':AE×Bool}(h:Red l r)(h':Red l r'):r=r':=by
 obtain⟨g,b⟩:=r;obtain⟨g',b'⟩:=r';obtain⟨h1,h2⟩:=h;obtain⟨h3,h4⟩:=h';dsimp only at h1 h2 h3 h4;cases b<;>cases b'
 .rw[(h2 rfl).1,(h4 rfl).1]
 .grind
 .grind
 grind
theorem Red.bad{l:List Int}(h:∀h,¬Good h l):Red l (iF,false):=⟨fun h=>(by cases h),fun _=>⟨rfl,h⟩⟩
def fr(c:AS):Int:=c.AR.DJ
def up(x:Int):Int:=w64 (x+1)
def ARv(r:AV)(ps:List AJ)(now:Int)(i:Nat)(free:Int):AS:=
 ⟨⟨r.AR.getD i 0,free,Im ps i,w64 (w64 (r.AR.getD i 0-free)-Im ps i),IW ps i⟩,De r ps i now,(rF (GG ps i)).1⟩
theorem APl{t:List Int}{n:Nat}(hn:n<=4)(h:Hw t n=true):t.length<=n:=by
 by_cases hc:t.length<=n
 .exact hc
 .exfalso;have hall:∀k (hk:k<t.length),0<=t[k]/\t[k]<n/\∀j (hj:j<k),t[j]≠t[k]:=by
   intro k hk;have h1:=Iw.1 h k hk;unfold SJ at h1;rw[By hk,AD,CI,BP (by omega) (by omega)]at h1;refine⟨h1.1.1,by omega,fun j hj e=>?_⟩;have h2:=h1.2;simp only[Az,List.any_eq_false,beq_iff_eq]at h2;refine h2 t[j] ?_ e;rw[Eu];exact⟨j,by rw[List.length_take];omega,by rw[List.getElem_take]⟩
  have h0:=hall 0 (by omega)
  match n,hn,hc,hall with
  |0,_,hc,hall=>have:=hall 0 (by omega);omega|1,_,hc,hall=>
   have a0:=hall 0 (by omega);have a1:=hall 1 (by omega);have:=a1.2.2 0 (by omega);omega
  |2,_,hc,hall=>
   have a0:=hall 0 (by omega);have a1:=hall 1 (by omega);have a2:=hall 2 (by omega);have:=a1.2.2 0 (by omega);have:=a2.2.2 0 (by omega);have:=a2.2.2 1 (by omega);omega
  |3,_,hc,hall=>
   have a0:=hall 0 (by omega);have a1:=hall 1 (by omega);have a2:=hall 2 (by omega);have a3:=hall 3 (by omega);have:=a1.2.2 0 (by omega);have:=a2.2.2 0 (by omega);have:=a2.2.2 1 (by omega);have:=a3.2.2 0 (by omega);have:=a3.2.2 1 (by omega);have:=a3.2.2 2 (by omega);omega
  |4,_,hc,hall=>
   have a0:=hall 0 (by omega);have a1:=hall 1 (by omega);have a2:=hall 2 (by omega);have a3:=hall 3 (by omega);have a4:=hall 4 (by omega)
   grind
structure AUe(h:AE):Prop where
 rules:GI h.AO=true
 DV:1<=h.AO.AR.length/\h.AO.AR.length<=4
 AUl:1<=h.AO.Cu/\h.AO.Cu<=3
 few:h.AG.length<=40
 par:∀i (hi:i<h.AG.length),DC h.AO h.AG[i] h.Now=true
 D7:h.AH.length=h.AO.AR.length
 cab:∀i (hi:i<h.AH.length),h.AH[i]=ARv h.AO h.AG h.Now i (fr h.AH[i])/\0<=fr h.AH[i]/\fr h.AH[i]<=h.AO.AR.getD i 0/\Cr h.AG i<=10
 todo:h.A0.length<=h.AO.AR.length
 Qq:(h.Ay.length:Int)=h.AO.Cu
 job:∀x∈h.Ay,-1<=x/\x<4
theorem ph{w:Ah}(hw:FI w=true):(rF (Dq w)).1=w:=by
 unfold Dq;rw[if_pos hw,iy (DU.1 hw)]
theorem ATq{h:AE}(hb:EC h=true):AUe h:=by
 obtain⟨h1,h2,h3,h4,h5,h6,h7,h8,h9,h10⟩:=lG hb;have hr:=Cb h1;have hcrew:1<=h.AO.Cu/\h.AO.Cu<=3:=hr.2.2.2.2.2.2.2.2.2;refine⟨h1,hr.1,hcrew,h4,?_,h5,?_,?_,h9,?_⟩
 .intro i hi;have:=Iw.1 h6 i hi;unfold XW at this;rw[By hi,AD]at this;exact this.1
 .intro i hi;have hs:i<h.AO.AR.length:=by omega
  have hk:=Iw.1 h10 i hi;unfold W0 at hk;rw[By hi,By hs]at hk;unfold IY Lq DD at hk;simp only[AD,beq_iff_eq,CI,Az,decide_eq_false_iff_not,IU nA,IU nC]at hk;obtain⟨k1,⟨⟨⟨l1,l2,l3,l4,l5,l6⟩,k3,k4⟩,k5,k6,k7,k8⟩,k9⟩:=hk;have hD:h.AO.AR.getD i 0=h.AO.AR[i]:=by simp[List.getD,hs]
  have hroom:=hr.2.2.1;have hw:=ph k4;rw[k6]at hw;unfold ARv fr;rw[hD,<-k5,<-k7,<-k8,<-k1,hw];generalize h.AH[i]=c at *;obtain⟨⟨t,f,hd,s,td⟩,row,wh⟩:=c;dsimp only at *;have e1:w64 (f+hd)=f+hd:=BP (by omega) (by omega);have e2:w64 (f+hd+s)=f+hd+s:=BP (by omega) (by omega)
  grind[BP]
 .have:=APl (by omega) h7;omega
 .intro x hx;have:=List.all_eq_true.1 h8 x hx;rw[CI,BP (by omega) (by omega)]at this;omega
theorem Lj{a b:List Int}(hl:a.length<2 ^ 62):XD a b=some (Du (·==·) a b):=by
 grind[XD,MI,vP,A3,BW,A5,AF,vO,BV,AW]
theorem LZ{a b:List Int}(hl:a.length<2 ^ 62):XC a b=some (Du (·==·) a b):=by
 grind[XC,MI,vN,A3,BW,A5,AF,vM,BV,AW]
end Lv.P
namespace Lv.P
open Lv Go
def rd(l:List Int)(k:Nat)(b:Bool):DL:=⟨l,(k:Int),b⟩
section spec
variable{l:List Int}(hl:l.length<=1048576){R:AV×Bool}{now HT:Int}
include hl
end spec
end Lv.P
