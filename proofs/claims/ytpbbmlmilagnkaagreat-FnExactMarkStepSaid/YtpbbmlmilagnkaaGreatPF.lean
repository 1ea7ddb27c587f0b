/- Plain laws about what the program computes. -/
import Derived.Test.YtpbbmlmilagnkaaGreatKD
import Derived.Test.YtpbbmlmilagnkaaGreatPE
noncomputable section
set_option linter.unusedVariables false
set_option linter.unusedSimpArgs false
set_option linter.unusedSectionVars false
open Bool renaming and_eq_true->AD,not_eq_true'->A8
open Int renaming eq_ofNat_of_zero_le->A2,toNat_natCast->AU
open List renaming append_assoc->Bg,drop_eq_nil_of_le->A1,drop_zero->CH,ext_getElem->Hb,filter_append->G4,filter_cons->Dj,flatten_cons->DX,getElem?_eq_getElem->Ad,getElem_map->Hc,getElem_mem->BH,getElem_range->G6,length_cons->AM,length_filterMap_le->CD,length_map->AZ,length_take->BQ,map_cons->AF,map_eq_flatMap->Gp,mem_cons->Af,mem_cons_of_mem->Au,mem_cons_self->BZ,mem_flatten->Dk,mem_iff_getElem->Eb,mem_singleton->DO,pairwise_cons->BI,pairwise_singleton->Fp,take_add_one->By,take_of_length_le->As,take_sublist->FL
open List.cons renaming injEq->B0
open Nat renaming le_refl->AT,lt_or_ge->AY
namespace Lv.P
open Lv Go
def Tb(w:Aq)(p:Ax):Aq:=⟨w.Ah.set (p.At.tmod 9).toNat (put ltP p (w.Ah.getD (p.At.tmod 9).toNat []))⟩
def NG(w:Aq)(p:Ax):Aq×Bool:=if HZ w=true/\Pn p=true/\HZ (Tb w p)=true then (Tb w p,true) else (w,false)
theorem Rb{p:Ax}(h:Pn p=true):(1<=p.At/\p.At<=1000008)/\1<=p.Id/\p.Id<=999:=by
 grind[Pn,Du]
theorem pV{n:Int}(h:1<=n):∃k:Nat,k<9/\n.tmod 9=(k:Int):=by
 obtain⟨m,rfl⟩:=A2 (show 0<=n by omega);refine⟨m % 9,Nat.mod_lt _ (by omega),?_⟩;rw[Int.tmod_eq_emod_of_nonneg (by omega)];rfl
theorem AEC{α:Type}{l:List (List α)}{k:Nat}(h:k<l.length)(x:List α):(l.set k x).flatten.length+l[k].length=l.flatten.length+x.length:=by
 grind[List.set_eq_take_append_cons_drop,List.take_append_drop,List.drop_eq_getElem_cons]
theorem AJK{α:Type}{l:List (List α)}{k:Nat}(h:k<l.length){x:List α}{a:α}(ha:a∈x):a∈(l.set k x).flatten:=by
 rw[Dk];exact⟨x,List.mem_set h _,ha⟩
theorem ZW{w:Aq}(hw:K2 w){p:Ax}(hp:1<=p.At):DE (Tb w p)/\p∈(Tb w p).Ah.flatten:=by
 obtain⟨k,hk,e⟩:=pV hp;have h9:=hw.nine;have hf:=hw.few;unfold Tb;rw[e,AU];have hk':k<w.Ah.length:=by omega
 have h1:=AEC hk' (put ltP p (w.Ah.getD k []));have h2:w.Ah.getD k []=w.Ah[k]:=by simp[List.getD,hk']
 rw[h2,E4]at h1;refine⟨⟨by dsimp only;rw[List.length_set];omega,by dsimp only;rw[h2];omega⟩,AJK hk' (Uc.2 (.inl rfl))⟩
theorem Zp{w:Aq}(hw:DE w)(p:Ax):mP w p=some (NG w p):=by
 unfold mP Wd;rw[SE hw,AE,Jm hw,AE,BB];by_cases hB:HZ w=true
 .have hP:=E0.1 hB;rw[hB,BL,AS,BD];by_cases hp:p.At<1
  .rw[if_pos hp];unfold NG;rw[if_neg];rintro⟨_,h2,_⟩;have:=Rb h2;omega
  .rw[if_neg hp];obtain⟨hf,hm⟩:=ZW hP (p:=p) (by omega);obtain⟨k,hk,e⟩:=pV (n:=p.At) (by omega);have h9:=hP.nine;have hfw:=hP.few;have hk':k<w.Ah.length:=by omega
   have h2:w.Ah.getD k []=w.Ah[k]:=by simp[List.getD,hk']
   have hsl:=Im hk';have hws:(Aq.mk (w.Ah.set k (put ltP p w.Ah[k])))=Tb w p:=by unfold Tb;rw[e,AU,h2]
   simp only[e,BK hk',AE,Pz (l:=w.Ah[k]) (by unfold lim;omega) p,AU,hws,Jm hf,SE hw,BB];unfold NG;cases hB2:HZ (Tb w p) with
   |false=>rw[BN,if_neg (by simp)]|true=>
    rw[BL,if_pos ⟨hB,(E0.1 hB2).pins p hm,rfl⟩]
 grind[BN,AS,BL,NG]
theorem Zg{w:Aq}(hw:DE w)(p:Ax):yi w p=some (NG w p):=by
 unfold yi Wf;rw[SD hw,AE,Jg hw,AE,BB];by_cases hB:HZ w=true
 .have hP:=E0.1 hB;rw[hB,BL,YD,AE,AS,BB];cases hp:Pn p with
  |false=>
   rw[BN];unfold NG;rw[hp,if_neg (by simp)]
  |true=>
   have hp1:=(Rb hp).1.1;rw[BL];obtain⟨hf,hm⟩:=ZW hP hp1;obtain⟨k,hk,e⟩:=pV hp1;have h9:=hP.nine;have hfw:=hP.few;have hk':k<w.Ah.length:=by omega
   have h2:w.Ah.getD k []=w.Ah[k]:=by simp[List.getD,hk']
   have hsl:=Im hk';have hws:(Aq.mk (w.Ah.set k (put ltP p w.Ah[k])))=Tb w p:=by unfold Tb;rw[e,AU,h2]
   have hj4:∀i:Nat,i<=w.Ah[k].length->∀s:List Ax,s=w.Ah[k].take i++p::w.Ah[k].drop i->Wg w p w w.Ah[k] (i:Int)=(bd (QV (Aq.mk (w.Ah.set k s))) fun x=>br (!x) (some (w,false)) (some (Aq.mk (w.Ah.set k s),true))):=by
    intro i hi s hs;have hins:AJZ w.Ah[k] (i:Int) [p]=@some (C.l (.st 5)).D s:=by
     show AA7 (.st 5) w.Ah[k] (i:Int) [p]=some s;have hc:(0:Int)<=i/\(i:Int).toNat<=w.Ah[k].length/\[p]≠([]:List Ax)/\w.Ah[k].length+[p].length<=lim:=⟨by omega,by simpa using hi,by simp,by rw[K6];unfold lim;omega⟩;unfold AA7;refine(if_pos hc).trans ?_;rw[hs,AU];congr 1;exact Bg _ _ _
    unfold Wg;have hh:Y.Ph k 0 [U.sl (C.st 5) s].length [(k,0)]:=⟨rfl,⟨AT _,by simp⟩,trivial⟩;rw[hins];refine(AE (α:=List Ax) s _).trans ?_;simp only[e,BK hk',AE,AU,CG hh,SD hw]
   simp only[e,BK hk',AE];have hloop:=Yo (lt:=ltP) (F:=Qv w p w w.Ah[k]) (l:=w.Ah[k]) (x:=p) (fun s=>bd (QV (Aq.mk (w.Ah.set k s))) fun x=>br (!x) (some (w,false)) (some (Aq.mk (w.Ah.set k s),true))) (by omega) ?_ ?_
   .rw[hloop,hws,Jg hf,AE,BB];unfold NG;cases hB2:HZ (Tb w p) with|false=>rw[BN,if_neg (by simp)]|true=>rw[BL,if_pos ⟨hB,hp,rfl⟩]
   .intro L i hi;unfold Qv Qu;obtain⟨c,hc,hc2,_⟩:=Jt w.Ah[k][i] p;rw[Bq hi,BL,BK hi,AE,hc,AE,AS,hc2,AS,hj4 i (by omega) _ rfl]
   .intro L;unfold Qv Qu;rw[Cr,BN,AS,BN,AS,hj4 _ (AT _) (w.Ah[k]++[p]) (by simp)]
 grind[BN,AS,BL,NG]
theorem pg{w:Aq}(hw:DE w)(p:Ax):DE (NG w p).1:=by
 grind[NG,ZW,E0,Rb]
def O9:List Ax->Aq->Aq×Bool| [],w=>(w,true)|p::ps,w=>if (NG w p).2=true then O9 ps (NG w p).1 else (⟨[]⟩,false)
def Iu(l:List Ax):Aq×Bool:=O9 l ⟨List.replicate 9 []⟩
theorem ZU:DE ⟨List.replicate 9 []⟩:=by constructor<;>simp
theorem cY{l:List Ax}{F:(Int×Aq->AA (Aq×Bool))->Int×Aq->AA (Aq×Bool)}(hl:l.length<2 ^ 62)
 (step:∀L (i:Nat) (h:i<l.length) w,DE w->F L ((i:Int),w)=br (!(NG w l[i]).2) (some (⟨[]⟩,false)) (L (w64 ((i:Int)+1),(NG w l[i]).1)))
 (stop:∀L w,F L ((l.length:Int),w)=some (w,true)):Aw F big (0,⟨List.replicate 9 []⟩)=some (Iu l):=by
 refine(Da (n:=l.length) (fun i (w:Aq)=>((i:Int),w)) (fun _ w=>DE w) (fun i w=>some (O9 (l.drop i) w)) (by omega) ?_ (v:=⟨List.replicate 9 []⟩) ZU).trans (by simp[Iu]);intro L i w hw hi ih;rcases AY i l.length with h|h
 .rw[step L i h w hw,Bc h (by omega),Dt h,O9,BB];cases e:(NG w l[i]).2 with|true=>rw[BL,ih _ (pg hw _) h];rfl|false=>rfl
 grind[O9]
theorem iM{l:List Ax}(hl:l.length<=1048576):y5 l=some (Iu l):=by
 unfold y5;rw[uj,AE];refine cY (by omega) ?_ ?_
 .intro L i h w hw;unfold XA
  grind[BL,BK,AE,Zp,C7]
 grind[XA,mz,BN,AS]
theorem fT{l:List Ax}(hl:l.length<=1048576):yj l=some (Iu l):=by
 unfold yj;rw[ui,AE]
 grind[cY,mR,BL,BK,AE,Zg,mQ,BN,AS]
theorem cZ:∀(l:List Ax) {w:Aq},DE w->DE (O9 l w).1
 | [],w,hw=>hw|p::ps,w,hw=>by
  unfold O9;split
  .exact cZ ps (pg hw p)
  .constructor<;>simp
theorem UE(l:List Ax):DE (Iu l).1:=cZ l ZU
section
variable{α:Type}{lt:α->α->Bool}
theorem GH(a:α)(l:List α):Cj lt (a::l)=put lt a (Cj lt l):=rfl
theorem uX(h:Swo lt)(ht:∀a b,lt a b=false->lt b a=false->a=b){l1 l2:List α}(hp:l1.Perm l2):Cj lt l1=Cj lt l2:=by
 induction hp with
 |nil=>rfl|cons x _ ih=>rw[GH,GH,ih]|swap x y l=>rw[GH,GH,GH,GH,gh h ht]|trans _ _ ih1 ih2=>exact ih1.trans ih2
theorem oR{a:α}{l:List α}(h:∀b∈l,lt b a=false):put lt a l=a::l:=by
 cases l with
 |nil=>rfl|cons z l=>rw[put,if_neg (by rw[h z (BZ ..)];simp)]
theorem oS{a:α}:∀{l:List α},(∀b∈l,lt b a=true)->put lt a l=l++[a]
 | [],_=>rfl|z::l,h=>by
  rw[put,if_pos (h z (BZ ..)),oS fun b hb=>h b (Au _ hb)];rfl
theorem cO(h:Swo lt){a z:α}{l:List α}(hs:Srt lt (z::l))(hz:lt z a=false):∀b∈z::l,lt b a=false:=by
 intro b hb;rcases Af.1 hb with rfl|hb
 .exact hz
 .have h1:=(BI.1 hs).1 b hb;cases e:lt b a with
  |false=>rfl|true=>
   rcases h.neg b z a e with h2|h2
   .rw[h1]at h2;cases h2
   .rw[hz]at h2;cases h2
theorem z8(h:Swo lt)(a:α):∀{l:List α},Srt lt l->Srt lt (put lt a l)
 | [],_=>Fp _ _|z::l,hs=>by
  rw[put];split
  .rename_i hz;refine BI.2 ⟨?_,z8 h a (BI.1 hs).2⟩;intro b hb;rcases Uc.1 hb with rfl|hb
   .exact h.jB _ _ hz
   .exact(BI.1 hs).1 b hb
  .rename_i hz;exact BI.2 ⟨cO h hs (by simpa using hz),hs⟩
theorem OX(h:Swo lt):∀l:List α,Srt lt (Cj lt l)| []=>List.Pairwise.nil|a::l=>z8 h a (OX h l)
theorem XV(h:Swo lt)(q:α->Bool)(a:α):∀{l:List α},Srt lt l->(put lt a l).filter q=if q a=true then put lt a (l.filter q) else l.filter q
 | [],_=>by by_cases hq:q a=true<;>simp[put,hq]|z::l,hs=>by
  have ih:=XV h q a (BI.1 hs).2;rw[put];split
  .grind[put]
  .rename_i hz;have habove:=cO h hs (by simpa using hz);rw[Dj]
   grind[oR]
theorem Jf(h:Swo lt)(q:α->Bool):∀l:List α,(Cj lt l).filter q=Cj lt (l.filter q)
 | []=>rfl|a::l=>by
  rw[GH,XV h q a (OX h l),Jf h q l,Dj]
  grind[GH]
theorem RP(h:Swo lt):∀{l:List α},(l.Pairwise fun a b=>lt a b=true)->Cj lt l=l
 | [],_=>rfl|a::l,hs=>by
  rw[GH,RP h (BI.1 hs).2,oR];intro b hb;exact h.jB _ _ ((BI.1 hs).1 b hb)
theorem LL(h:Swo lt):∀{l:List α},(∀k (hk:k+1<l.length),lt l[k] l[k+1]=true)->l.Pairwise fun a b=>lt a b=true
 | [],_=>List.Pairwise.nil| [a],_=>Fp _ _|a::b::l,hc=>by
  have ih:=LL h (l:=b::l) fun k hk=>hc (k+1) (by simpa using hk)
  have h1:lt a b=true:=hc 0 (by simp);refine BI.2 ⟨?_,ih⟩;intro c hcm;rcases Af.1 hcm with rfl|hcm
  .exact h1
  .exact h.trans h1 ((BI.1 ih).1 c hcm)
end
theorem RS{α β:Type}{f g:β->List α}:∀{l:List β},(∀i∈l,(f i).Sublist (g i))->(l.map f).flatten.Sublist (l.map g).flatten
 | [],_=>List.Sublist.slnil|i::l,h=>by
  simp only[AF,DX];exact(h i (BZ ..)).append (RS fun j hj=>h j (Au _ hj))
def FW(i:Nat)(p:Ax):Bool:=p.At.tmod 9==(i:Int)
theorem IZ{i:Nat}{p:Ax}:FW i p=true↔p.At.tmod 9=(i:Int):=by unfold FW;exact beq_iff_eq
theorem P1{w:Aq}(hw:K2 w){i:Nat}(hi:i<w.Ah.length):(w.Ah.flatten).filter (FW i)=w.Ah[i]:=by
 have hin:∀j (hj:j<w.Ah.length),∀p∈w.Ah[j],p.At.tmod 9=(j:Int):=by
  intro j hj p hp;obtain⟨k,hk,rfl⟩:=Eb.1 hp;exact hw.at_ j hj k hk
 have e:w.Ah.flatten=(w.Ah.take i).flatten++(w.Ah[i]++(w.Ah.drop (i+1)).flatten):=by
  conv=>lhs;rw[<-List.take_append_drop i w.Ah,List.drop_eq_getElem_cons hi]
  simp only[List.flatten_append,DX]
 have h1:((w.Ah.take i).flatten).filter (FW i)=[]:=by
  grind[List.filter_eq_nil_iff,List.mem_flatten,List.mem_iff_getElem,IZ]
 have h2:((w.Ah.drop (i+1)).flatten).filter (FW i)=[]:=by
  rw[List.filter_eq_nil_iff];intro p hp;obtain⟨s,hs,hps⟩:=Dk.1 hp;obtain⟨j,hj,rfl⟩:=Eb.1 hs
  grind[IZ]
 grind[FW,List.filter_eq_self]
def R3(S:List Ax)(j:Nat):Aq:=⟨(List.range 9).map fun i=>(S.take j).filter (FW i)⟩
theorem cg{w:Aq}(hw:K2 w):w=⟨(List.range 9).map fun i=>(Cj ltP w.Ah.flatten).filter (FW i)⟩:=by
 have h9:=hw.nine;cases w with
 |mk sp=>
  congr 1;dsimp only at h9 hw ⊢;apply Hb
  .simp[h9]
  .intro i h1 h2;rw[Hc,G6,Jf Ei,P1 hw h1];exact(RP Ei (LL Ei (hw.srt i h1))).symm
theorem AFm{w:Aq}(hw:K2 w)(j:Nat):K2 (R3 (Cj ltP w.Ah.flatten) j):=by
 have hsub:(R3 (Cj ltP w.Ah.flatten) j).Ah.flatten.Sublist w.Ah.flatten:=by
  conv=>rhs;rw[cg hw]
  exact RS fun i _=>(FL _ _).filter _
 have hsp:∀i (h:i<(R3 (Cj ltP w.Ah.flatten) j).Ah.length),(R3 (Cj ltP w.Ah.flatten) j).Ah[i]=((Cj ltP w.Ah.flatten).take j).filter (FW i):=by
  intro i h;simp only[R3,Hc,G6]
 have hstr:∀i,i<9->(((Cj ltP w.Ah.flatten).take j).filter (FW i)).Pairwise fun a b=>ltP a b=true:=by
  intro i hi;have h1:i<w.Ah.length:=by rw[hw.nine];exact hi
  have h2:((Cj ltP w.Ah.flatten).filter (FW i))=w.Ah[i]:=by
   rw[Jf Ei,P1 hw h1];exact RP Ei (LL Ei (hw.srt i h1))
  refine List.Pairwise.sublist ((FL _ _).filter _) ?_;rw[h2];exact LL Ei (hw.srt i h1)
 refine⟨by simp[R3],Nat.le_trans hsub.length_le hw.few,fun p hp=>hw.pins p (hsub.subset hp),hw.ids.sublist hsub,?_,?_⟩
 .grind[ltP,IZ]
 grind[R3,List.pairwise_iff_getElem]
theorem AHk{w:Aq}(hw:K2 w){j:Nat}(hj:j<(Cj ltP w.Ah.flatten).length):Tb (R3 (Cj ltP w.Ah.flatten) j) (Cj ltP w.Ah.flatten)[j]=R3 (Cj ltP w.Ah.flatten) (j+1):=by
 have hpm:(Cj ltP w.Ah.flatten)[j]∈w.Ah.flatten:=OW.1 (BH hj);obtain⟨k,hk,e⟩:=pV (Rb (hw.pins _ hpm)).1.1;have hstr:(Cj ltP w.Ah.flatten).Pairwise fun a b=>ltP b a=false:=OX Ei _
 have e2:(Cj ltP w.Ah.flatten).take (j+1)=(Cj ltP w.Ah.flatten).take j++[(Cj ltP w.Ah.flatten)[j]]:=by rw[By,Ad hj];rfl
 generalize hS:Cj ltP w.Ah.flatten=S at *;have hput:∀(q:Ax->Bool),q S[j]=true->(∀b∈(S.take j).filter q,ltP b S[j]=true)->put ltP S[j] ((S.take j).filter q)=(S.take (j+1)).filter q:=by
  intro q hq hall;rw[oS hall,e2,G4];simp[hq]
 have hlt:∀b∈(S.take j).filter (FW k),ltP b S[j]=true:=by
  intro b hb;have h9:k<w.Ah.length:=by rw[hw.nine];exact hk
  have h2:S.filter (FW k)=w.Ah[k]:=by
   rw[<-hS,Jf Ei,P1 hw h9];exact RP Ei (LL Ei (hw.srt k h9))
  have h3:((S.take (j+1)).filter (FW k)).Pairwise fun a b=>ltP a b=true:=by
   refine List.Pairwise.sublist ((FL _ _).filter _) ?_;rw[h2];exact LL Ei (hw.srt k h9)
  rw[e2,G4]at h3;have h4:([S[j]]:List Ax).filter (FW k)=[S[j]]:=by simp[IZ.2 e]
  rw[h4]at h3;exact(List.pairwise_append.1 h3).2.2 b hb _ (DO.2 rfl)
 unfold Tb R3;rw[e,AU];congr 1;apply Hb
 .simp
 .intro i h1 h2;have hi:i<9:=by simpa using h2
  rw[List.getElem_set];have hD:(((List.range 9).map fun i=>(S.take j).filter (FW i)).getD k [])=(S.take j).filter (FW k):=by simp[List.getD,hk]
  split
  .rename_i hki;subst hki;rw[hD,hput _ (IZ.2 e) hlt];simp
  .grind[IZ]
theorem Zr{w:Aq}(hw:K2 w):Iu (Cj ltP w.Ah.flatten)=(w,true):=by
 have key:∀m j,j+m=(Cj ltP w.Ah.flatten).length->O9 ((Cj ltP w.Ah.flatten).drop j) (R3 (Cj ltP w.Ah.flatten) j)=(w,true):=by
  intro m
  induction m with
  |zero=>
   grind[O9,R3,cg]
  |succ m ih=>
   intro j hj;have hj':j<(Cj ltP w.Ah.flatten).length:=by omega
   have hp:NG (R3 (Cj ltP w.Ah.flatten) j) (Cj ltP w.Ah.flatten)[j]=(R3 (Cj ltP w.Ah.flatten) (j+1),true):=by
    unfold NG;rw[AHk hw hj',if_pos];exact⟨E0.2 (AFm hw j),hw.pins _ (OW.1 (BH hj')),E0.2 (AFm hw (j+1))⟩
   rw[Dt hj',O9,hp,if_pos rfl];exact ih (j+1) (by omega)
 have:=key (Cj ltP w.Ah.flatten).length 0 (by omega);rw[CH]at this;exact this
def Good(h:AH)(l:List Int):Prop:=FN h=true/\CU h/\Fy h=l
def ig:AW:=⟨[],0,0,0,0,0,0,0,0⟩
def Mw:AH:=⟨ig,0,0,[],[],[],[]⟩
def Red(l:List Int)(r:AH×Bool):Prop:=(r.2=true->Good r.1 l/\∀h,Good h l->h=r.1)/\(r.2=false->r.1=Mw/\∀h,¬Good h l)
theorem Red.one{l:List Int}{r r':AH×Bool}(h:Red l r)(h':Red l r'):r=r':=by
 obtain⟨g,b⟩:=r;obtain⟨g',b'⟩:=r';obtain⟨h1,h2⟩:=h;obtain⟨h3,h4⟩:=h';dsimp only at h1 h2 h3 h4;cases b<;>cases b'
 .rw[(h2 rfl).1,(h4 rfl).1]
 .grind
 .grind
 grind
theorem Red.bad{l:List Int}(h:∀h,¬Good h l):Red l (Mw,false):=⟨fun h=>(by cases h),fun _=>⟨rfl,h⟩⟩
def fr(c:Aa):Int:=c.Ae.EV
def up(x:Int):Int:=w64 (x+1)
theorem AFQ(h:AH):Fy h=((H4 h.AR).length:Int)::(H4 h.AR++(h.Now::h.A4::(h.AK.length:Int)::(h.AK.flatMap JZ++(h.Ap.map fr++((h.BO.length:Int)::(h.BO++h.BP.map up)))))):=by
 have e1:∀l:List Aa,l.flatMap (fun c=>[c.Ae.EV])=l.map fr:=fun l=>by rw[Gp];rfl
 have e2:∀l:List Int,l.flatMap (fun x=>[w64 (x+1)])=l.map up:=fun l=>by rw[Gp];rfl
 grind[Fy]
def YS(r:AW)(ps:List AP)(now:Int)(i:Nat)(free:Int):Aa:=
 ⟨⟨r.Ae.getD i 0,free,I5 ps i,w64 (w64 (r.Ae.getD i 0-free)-I5 ps i),Kx ps i⟩,Gw r ps i now,(Iu (HL ps i)).1⟩
theorem AHZ{t:List Int}{n:Nat}(hn:n<=4)(h:IQ t n=true):t.length<=n:=by
 by_cases hc:t.length<=n
 .exact hc
 .exfalso;have hall:∀k (hk:k<t.length),0<=t[k]/\t[k]<n/\∀j (hj:j<k),t[j]≠t[k]:=by
   intro k hk;have h1:=KL.1 h k hk;unfold OK at h1;rw[B3 hk,AD,Du,Ao (by omega) (by omega)]at h1;refine⟨h1.1.1,by omega,fun j hj e=>?_⟩;have h2:=h1.2;simp only[A8,List.any_eq_false,beq_iff_eq]at h2;refine h2 t[j] ?_ e;rw[Eb];exact⟨j,by rw[BQ];omega,by rw[List.getElem_take]⟩
  have h0:=hall 0 (by omega)
  match n,hn,hc,hall with
  |0,_,hc,hall=>have:=hall 0 (by omega);omega|1,_,hc,hall=>
   have a0:=hall 0 (by omega);have a1:=hall 1 (by omega);have:=a1.2.2 0 (by omega);omega
  |2,_,hc,hall=>
   have a0:=hall 0 (by omega);have a1:=hall 1 (by omega);have a2:=hall 2 (by omega);have:=a1.2.2 0 (by omega);have:=a2.2.2 0 (by omega);have:=a2.2.2 1 (by omega);omega
  |3,_,hc,hall=>
   have a0:=hall 0 (by omega);have a1:=hall 1 (by omega);have a2:=hall 2 (by omega);have a3:=hall 3 (by omega);have:=a1.2.2 0 (by omega);have:=a2.2.2 0 (by omega);have:=a2.2.2 1 (by omega);have:=a3.2.2 0 (by omega);have:=a3.2.2 1 (by omega);have:=a3.2.2 2 (by omega);omega
  |4,_,hc,hall=>
   have a0:=hall 0 (by omega);have a1:=hall 1 (by omega);have a2:=hall 2 (by omega);have a3:=hall 3 (by omega);have a4:=hall 4 (by omega)
   grind
structure AMZ(h:AH):Prop where
 rules:EF h.AR=true
 FJ:1<=h.AR.Ae.length/\h.AR.Ae.length<=4
 AMm:1<=h.AR.Ch/\h.AR.Ch<=3
 few:h.AK.length<=40
 par:∀i (hi:i<h.AK.length),FO h.AR h.AK[i] h.Now=true
 H3:h.Ap.length=h.AR.Ae.length
 cab:∀i (hi:i<h.Ap.length),h.Ap[i]=YS h.AR h.AK h.Now i (fr h.Ap[i])/\0<=fr h.Ap[i]/\fr h.Ap[i]<=h.AR.Ae.getD i 0/\D2 h.AK i<=10
 todo:h.BO.length<=h.AR.Ae.length
 AFO:(h.BP.length:Int)=h.AR.Ch
 job:∀x∈h.BP,-1<=x/\x<4
theorem gX{w:Aq}(hw:HZ w=true):(Iu (JM w)).1=w:=by
 unfold JM;rw[if_pos hw,Zr (E0.1 hw)]
theorem NF{h:AH}(hb:FN h=true):AMZ h:=by
 obtain⟨h1,h2,h3,h4,h5,h6,h7,h8,h9,h10⟩:=Js hb;have hr:=Ce h1;have hcrew:1<=h.AR.Ch/\h.AR.Ch<=3:=hr.2.2.2.2.2.2.2.2.2;refine⟨h1,hr.1,hcrew,h4,?_,h5,?_,?_,h9,?_⟩
 .intro i hi;have:=KL.1 h6 i hi;unfold bn at this;rw[B3 hi,AD]at this;exact this.1
 .intro i hi;have hs:i<h.AR.Ae.length:=by omega
  have hk:=KL.1 h10 i hi;unfold Z7 at hk;rw[B3 hi,B3 hs]at hk;unfold Jb R9 Iq at hk;simp only[AD,beq_iff_eq,Du,A8,decide_eq_false_iff_not,Oh AIY,Oh AIZ]at hk;obtain⟨k1,⟨⟨⟨l1,l2,l3,l4,l5,l6⟩,k3,k4⟩,k5,k6,k7,k8⟩,k9⟩:=hk;have hD:h.AR.Ae.getD i 0=h.AR.Ae[i]:=by simp[List.getD,hs]
  have hroom:=hr.2.2.1;have hw:=gX k4;rw[k6]at hw;unfold YS fr;rw[hD,<-k5,<-k7,<-k8,<-k1,hw];generalize h.Ap[i]=c at *;obtain⟨⟨t,f,hd,s,td⟩,row,wh⟩:=c;dsimp only at *;have e1:w64 (f+hd)=f+hd:=Ao (by omega) (by omega);have e2:w64 (f+hd+s)=f+hd+s:=Ao (by omega) (by omega)
  grind[Ao]
 .have:=AHZ (by omega) h7;omega
 .intro x hx;have:=List.all_eq_true.1 h8 x hx;rw[Du,Ao (by omega) (by omega)]at this;omega
def H6(l:List Int):AW×Bool:=
 match l with
 |a::b::c::d::e::f::g::i::x::s=>if EF ⟨x::s,a,b,c,d,e,f,g,i⟩=true then (⟨x::s,a,b,c,d,e,f,g,i⟩,true) else (ig,false)|_=>(ig,false)
theorem Y6{l:List Int}(h:(H6 l).2=true):EF (H6 l).1=true/\H4 (H6 l).1=l:=by
 unfold H6 at *;split at h
 .split at h
  .rename_i h1;rw[if_pos h1];exact⟨h1,rfl⟩
  .cases h
 .cases h
theorem Jk{r:AW}(hb:EF r=true):H6 (H4 r)=(r,true):=by
 have h1:=(Ce hb).1.1;obtain⟨s,a,b,c,d,e,f,g,i⟩:=r
 match s,h1 with
 |x::s,_=>
  show (if EF _=true then _ else _)=_;rw[if_pos hb]
theorem iJ{l:List Int}(hl:l.length<=1048576):y3 l=some (H6 l):=by
 unfold y3
 match l,hl with
 | [],_=>rfl| [_],_=>rfl| [_,_],_=>rfl| [_,_,_],_=>rfl| [_,_,_,_],_=>rfl| [_,_,_,_,_],_=>rfl| [_,_,_,_,_,_],_=>rfl| [_,_,_,_,_,_,_],_=>rfl| [_,_,_,_,_,_,_,_],_=>rfl|a::b::c::d::e::f::g::i::x::s,hl=>
  simp only[AM]at hl;have hs:(x::s).length<2 ^ 62:=by simp only[AM];omega
  rw[BD,if_neg (by simp only[AM];omega)];have e0:at? (a::b::c::d::e::f::g::i::x::s) 0=some a:=rfl;have e1:at? (a::b::c::d::e::f::g::i::x::s) 1=some b:=rfl;have e2:at? (a::b::c::d::e::f::g::i::x::s) 2=some c:=rfl;have e3:at? (a::b::c::d::e::f::g::i::x::s) 3=some d:=rfl;have e4:at? (a::b::c::d::e::f::g::i::x::s) 4=some e:=rfl;have e5:at? (a::b::c::d::e::f::g::i::x::s) 5=some f:=rfl;have e6:at? (a::b::c::d::e::f::g::i::x::s) 6=some g:=rfl;have e7:at? (a::b::c::d::e::f::g::i::x::s) 7=some i:=rfl;have e8:List.drop (Int.toNat 8) (a::b::c::d::e::f::g::i::x::s)=x::s:=rfl;have g1:(0:Int)<=8/\(8:Int)<=((a::b::c::d::e::f::g::i::x::s).length:Int):=by simp only[AM];omega
  have hlim:lim=268435456:=rfl;have g2:0+(x::s).length<=lim:=by simp only[AM];omega
  simp only[e0,e1,e2,e3,e4,e5,e6,e7,e8,AE,CG g1,CG g2,C7,PL,PM,PN,PO,No,PQ,PR,List.nil_append,H7 (r:=⟨x::s,a,b,c,d,e,f,g,i⟩) hs,BB];unfold H6;dsimp only;cases EF ⟨x::s,a,b,c,d,e,f,g,i⟩<;>rfl
theorem fR{l:List Int}(hl:l.length<=1048576):yh l=some (H6 l):=by
 unfold yh
 match l,hl with
 | [],_=>rfl| [_],_=>rfl| [_,_],_=>rfl| [_,_,_],_=>rfl| [_,_,_,_],_=>rfl| [_,_,_,_,_],_=>rfl| [_,_,_,_,_,_],_=>rfl| [_,_,_,_,_,_,_],_=>rfl| [_,_,_,_,_,_,_,_],_=>rfl|a::b::c::d::e::f::g::i::x::s,hl=>
  simp only[AM]at hl;have hs:(x::s).length<2 ^ 62:=by simp only[AM];omega
  rw[BD,if_neg (by simp only[AM];omega)];have e0:at? (a::b::c::d::e::f::g::i::x::s) 0=some a:=rfl;have e1:at? (a::b::c::d::e::f::g::i::x::s) 1=some b:=rfl;have e2:at? (a::b::c::d::e::f::g::i::x::s) 2=some c:=rfl;have e3:at? (a::b::c::d::e::f::g::i::x::s) 3=some d:=rfl;have e4:at? (a::b::c::d::e::f::g::i::x::s) 4=some e:=rfl;have e5:at? (a::b::c::d::e::f::g::i::x::s) 5=some f:=rfl;have e6:at? (a::b::c::d::e::f::g::i::x::s) 6=some g:=rfl;have e7:at? (a::b::c::d::e::f::g::i::x::s) 7=some i:=rfl;have e8:List.drop (Int.toNat 8) (a::b::c::d::e::f::g::i::x::s)=x::s:=rfl;have g1:(0:Int)<=8/\(8:Int)<=((a::b::c::d::e::f::g::i::x::s).length:Int):=by simp only[AM];omega
  have hc:IB (x::s)=some (x::s):=UO (by simp only[AM];omega);simp only[e0,e1,e2,e3,e4,e5,e6,e7,e8,AE,CG g1,hc,C7,PL,PM,PN,PO,No,PQ,PR,GG (r:=⟨x::s,a,b,c,d,e,f,g,i⟩) hs,BB];unfold H6;dsimp only;cases EF ⟨x::s,a,b,c,d,e,f,g,i⟩<;>rfl
theorem AIe(x y:Int):(x==y)=true↔x=y:=beq_iff_eq
theorem pQ{a b:List Int}(hl:a.length<2 ^ 62):y6 a b=some (Gx (·==·) a b):=by
 grind[y6,TV,m7,BL,BK,AE,m0,BN,AS]
theorem ng{a b:List Int}(hl:a.length<2 ^ 62):yk a b=some (Gx (·==·) a b):=by
 grind[yk,TV,mT,BL,BK,AE,mS,BN,AS]
def rd(l:List Int)(k:Nat)(b:Bool):Ck:=⟨l,(k:Int),b⟩
theorem fk{l:List Int}{k:Nat}{b:Bool}(hl:l.length<=1048576)(hk:k<=l.length) :
 ∃n k' b',Tn (rd l k b)=some (n,rd l k' b')/\k'<=l.length/\∀x rest,l.drop k=x::rest->n=x/\l.drop k'=rest/\b'=b:=by
 unfold Tn;rw[BD];rcases AY k l.length with h|h
 .rw[if_neg (show ¬((rd l k b).at_>=((rd l k b).N1.length:Int)) from by show ¬((k:Int)>=(l.length:Int));omega)];have e1:w64 ((k:Int)+1)=((k+1:Nat):Int):=Bc h (by omega);have e2:w64 (((k+1:Nat):Int)-1)=(k:Int):=by rw[Ao (by omega) (by omega)];omega
  show ∃n k' b',(bd (at? l (w64 (w64 ((k:Int)+1)-1))) fun x1=>some (x1,Ck.mk l (w64 ((k:Int)+1)) b))=_/\_;rw[e1,e2,BK h,AE];refine⟨_,k+1,b,rfl,by omega,fun x rest e=>?_⟩
  grind[Dt]
 .rw[if_pos (show (rd l k b).at_>=((rd l k b).N1.length:Int) from by show (k:Int)>=(l.length:Int);omega)];refine⟨0,k,true,rfl,hk,fun x rest e=>?_⟩;rw[A1 h]at e;cases e
theorem UN{l:List Int}{k:Nat}{b:Bool}(hl:l.length<=1048576)(hk:k<=l.length){m:Int}(hm:0<=m) :
 ∃n k' b',To (rd l k b) m=some (n,rd l k' b')/\k'<=l.length/\0<=n/\n<=m/\∀x rest,l.drop k=x::rest->0<=x->x<=m->n=x/\l.drop k'=rest/\b'=b:=by
 obtain⟨n,k',b',h1,h2,h3⟩:=fk (b:=b) hl hk;unfold To;rw[h1,AE,Gt,AE,BB];cases e:inB n 0 m with
 |true=>
  rw[Du]at e;exact⟨n,k',b',rfl,h2,e.1,e.2,fun x rest hx _ _=>h3 x rest hx⟩
 |false=>
  refine⟨0,k',true,rfl,h2,by omega,hm,fun x rest hx h0 h1=>?_⟩
  grind[inB]
theorem ft{l:List Int}{k:Nat}{b:Bool}(hl:l.length<=1048576)(hk:k<=l.length){n:Nat}(hn:n<=1048576) :
 ∃xs k' b',Tp (rd l k b) (n:Int)=some (xs,rd l k' b')/\k'<=l.length/\xs.length=n/\∀ys rest,l.drop k=ys++rest->ys.length=n->xs=ys/\l.drop k'=rest/\b'=b:=by
 unfold Tp;have key:=Ts (F:=W9 (n:Int)) (n:=n) (fun i (v:List Int×Nat×Bool)=>(v.1,(i:Int),rd l v.2.1 v.2.2))
  (fun i v=>v.1.length=i/\v.2.1<=l.length/\∀ys rest,l.drop k=ys++rest->ys.length=n->v.1=ys.take i/\l.drop v.2.1=ys.drop i++rest/\v.2.2=b)
  (fun r:List Int×Ck=>∃k' b',r.2=rd l k' b'/\k'<=l.length/\r.1.length=n/\∀ys rest,l.drop k=ys++rest->ys.length=n->r.1=ys/\l.drop k'=rest/\b'=b) (by omega) ?_ (v:=([],k,b)) ⟨rfl,hk,fun ys rest h _=>⟨by simp,by simpa using h,rfl⟩⟩
 .obtain⟨r,hr,k',b',hr2,h1,h2,h3⟩:=key;exact⟨r.1,k',b',by rw[<-hr2];exact hr,h1,h2,h3⟩
 .rintro L i ⟨xs,q,c⟩ ⟨g1,g2,g3⟩ hi ih;dsimp only at g1 g2 g3 ih ⊢;unfold W9;dsimp only;rcases AY i n with h|h
  .obtain⟨x,q',c',e1,e2,e3⟩:=fk (b:=c) hl g2;have hlim:lim=268435456:=rfl;rw[Bq h,BL,e1,AE,CG (by rw[K6];omega),Bc h (by omega)];refine ih (xs++[x],q',c') ⟨by simp[g1],e2,fun ys rest hy hn'=>?_⟩ h;obtain⟨p1,p2,p3⟩:=g3 ys rest hy hn';have hiy:i<ys.length:=by omega
   rw[Dt hiy]at p2;obtain⟨u1,u2,u3⟩:=e3 _ _ p2;refine⟨?_,u2,u3.trans p3⟩;rw[p1,u1,By,Ad hiy];rfl
  .obtain rfl:i=n:=by omega
   rw[Cr,BN,AS];unfold my
   grind
theorem ten{α:Type}{l:List α}(h:l.length=10):∃a b c d e f g i j k,l=[a,b,c,d,e,f,g,i,j,k]:=by
 match l,h with
 | [a,b,c,d,e,f,g,i,j,k],_=>exact⟨a,b,c,d,e,f,g,i,j,k,rfl⟩
theorem AI1{l:List Int}{k:Nat}{b:Bool}(hl:l.length<=1048576)(hk:k<=l.length) :
 ∃p k' b',y4 (rd l k b)=some (p,rd l k' b')/\k'<=l.length/\∀(q:AP) rest,l.drop k=JZ q++rest -> -1<=q.Ci->q.Ci<=1048576->p=q/\l.drop k'=rest/\b'=b:=by
 obtain⟨xs,k',b',h1,h2,h3,h4⟩:=ft (b:=b) hl hk (n:=10) (by omega);obtain⟨a0,a1,a2,a3,a4,a5,a6,a7,a8,a9,rfl⟩:=ten h3;unfold y4;rw[show (10:Int)=((10:Nat):Int) from rfl,h1,AE];have e0:at? [a0,a1,a2,a3,a4,a5,a6,a7,a8,a9] 0=some a0:=rfl;have e1:at? [a0,a1,a2,a3,a4,a5,a6,a7,a8,a9] 1=some a1:=rfl;have e2:at? [a0,a1,a2,a3,a4,a5,a6,a7,a8,a9] 2=some a2:=rfl;have e3:at? [a0,a1,a2,a3,a4,a5,a6,a7,a8,a9] 3=some a3:=rfl;have e4:at? [a0,a1,a2,a3,a4,a5,a6,a7,a8,a9] 4=some a4:=rfl;have e5:at? [a0,a1,a2,a3,a4,a5,a6,a7,a8,a9] 5=some a5:=rfl;have e6:at? [a0,a1,a2,a3,a4,a5,a6,a7,a8,a9] 6=some a6:=rfl;have e7:at? [a0,a1,a2,a3,a4,a5,a6,a7,a8,a9] 7=some a7:=rfl;have e8:at? [a0,a1,a2,a3,a4,a5,a6,a7,a8,a9] 8=some a8:=rfl;have e9:at? [a0,a1,a2,a3,a4,a5,a6,a7,a8,a9] 9=some a9:=rfl;simp only[e0,e1,e2,e3,e4,e5,e6,e7,e8,e9,AE,YH];refine⟨_,k',b',rfl,h2,fun q rest hq hf hf2=>?_⟩;obtain⟨p1,p2,p3⟩:=h4 (JZ q) rest hq rfl;refine⟨?_,p2,p3⟩;unfold JZ at p1;simp only[B0,and_true]at p1;obtain⟨q0,q1,q2,q3,q4,q5,q6,q7,q8,q9⟩:=p1;rw[Ao (by omega) (by omega)]at q2;have hfrom:w64 ((if a2>0 then a2 else 0)-1)=q.Ci:=by
  grind[Ao]
 rw[hfrom,q0,q1,q3,q4,q5,q6,q7,q8,q9]
def tl4(g:AH):List Int:=(g.BO.length:Int)::(g.BO++g.BP.map up)
def tl3(g:AH)(i:Nat):List Int:=(g.Ap.drop i).map fr++tl4 g
def tl2(g:AH)(i:Nat):List Int:=(g.AK.drop i).flatMap JZ++tl3 g 0
theorem bX{g:AH}{l:List Int}(h:Good g l):l=((H4 g.AR).length:Int)::(H4 g.AR++(g.Now::g.A4::(g.AK.length:Int)::tl2 g 0)):=by
 rw[<-h.2.2,AFQ];simp only[tl2,tl3,tl4,CH]
def Hd(g:AH)(R:AW)(now turn:Int):Prop:=g.AR=R/\g.Now=now/\g.A4=turn
theorem bZ{h:AH}{R:AW}(hR:h.AR=R):AH.mk (AW.mk R.Ae R.CJ R.Room R.BW R.Bn R.Bi R.Rest R.CI R.Ch) h.Now h.A4 h.AK h.Ap h.BO h.BP=h:=by
 subst hR;rfl
theorem Rm{a b:List Int}:Gx (·==·) a b=true↔a=b:=Oh AIe
def jb(j:Int):Int:=w64 ((if j > -5 then j else -5)-1)
theorem ALp{x:Int}(h:-1<=x)(h2:x<4):jb (up x)=x:=by
 unfold jb up
 grind[Ao]
section spec
variable{l:List Int}(hl:l.length<=1048576){R:AW×Bool}{now turn:Int}
include hl
theorem AL4{x:List Int×Ck}{h:AH}(hR:h.AR=R.1)(hh:CU h)(ha:∀g,Good g l->g=h/\x.2.jG=false) :
 ∃r,Nh l R x ((),R.1.CJ,R.1.Room,R.1.BW,R.1.Bn,R.1.Bi,R.1.Rest,R.1.CI,R.1.Ch,h.Now,h.A4,h.AK,h.Ap,h.BO,h.BP)=some r/\Red l r:=by
 unfold Nh Q1;dsimp only;rw[bZ hR];cases hb:x.2.jG with
 |true=>
  rw[BL,AS,BL];exact⟨_,rfl,Red.bad fun g hg=>by have:=(ha g hg).2;rw[hb]at this;cases this⟩
 |false=>
  rw[BN,Jl hh,AE,BB];cases hB:FN h with
  |false=>
   rw[BN,AS,BL];exact⟨_,rfl,Red.bad fun g hg=>by rw[(ha g hg).1]at hg;rw[hg.1]at hB;cases hB⟩
  |true=>
   have hnl:=Oa hh hB;rw[BL,cM hh hB,AE,pQ (by omega),AE,AS,BB];cases hs:Gx (·==·) (Fy h) l with
   |true=>
    rw[BL];exact⟨_,rfl,fun _=>⟨⟨hB,hh,Rm.1 hs⟩,fun g hg=>(ha g hg).1⟩,fun hc=>by cases hc⟩
   |false=>
    rw[BN];refine⟨_,rfl,Red.bad fun g hg=>?_⟩;rw[(ha g hg).1]at hg;rw[Rm.2 hg.2.2]at hs;cases hs
theorem AL7{x:List Int×Ck}{ps:List AP}{cs:List Aa}{td:List Int}(hx:x.1.length<=1048576) :
 Aw (XE l R x) big (0,(),R.1.CJ,R.1.Room,R.1.BW,R.1.Bn,R.1.Bi,R.1.Rest,R.1.CI,R.1.Ch,now,turn,ps,cs,td,[]) =
  Nh l R x ((),R.1.CJ,R.1.Room,R.1.BW,R.1.Bn,R.1.Bi,R.1.Rest,R.1.CI,R.1.Ch,now,turn,ps,cs,td,x.1.map jb):=by
 refine Da (n:=x.1.length) (fun i (v:List Int)=>((i:Int),(),R.1.CJ,R.1.Room,R.1.BW,R.1.Bn,R.1.Bi,R.1.Rest,R.1.CI,R.1.Ch,now,turn,ps,cs,td,v)) (fun i v=>v=(x.1.take i).map jb)
  (fun _ _=>Nh l R x ((),R.1.CJ,R.1.Room,R.1.BW,R.1.Bn,R.1.Bi,R.1.Rest,R.1.CI,R.1.Ch,now,turn,ps,cs,td,x.1.map jb)) (by omega) ?_ (v:=[]) (by simp)
 intro L i v hv hi ih;unfold XE;dsimp only;rcases AY i x.1.length with h|h
 .have hlim:lim=268435456:=rfl;have hvl:v.length<=1048576:=by rw[hv,AZ,BQ];omega
  simp only[Bq h,BL,BK h,AE,YH,Bc h (by omega:x.1.length<2 ^ 63)];rw[CG (by rw[K6];omega)];refine ih _ ?_ h;rw[hv,By,Ad h,List.map_append];rfl
 grind[BN,AS]
theorem AL3(hr:EF R.1=true){ps:List AP}{cs:List Aa}{k:Nat}{b:Bool}(hk:k<=l.length)(hps:ps.length<=1048576)(hcs:cs.length<=1048576)(hcf:∀c∈cs,Dl c)
 (ha:∀g,Good g l->Hd g R.1 now turn/\g.AK=ps/\g.Ap=cs/\l.drop k=tl4 g/\b=false) :
 ∃r,XC l R ((),R.1.CJ,R.1.Room,R.1.BW,R.1.Bn,R.1.Bi,R.1.Rest,R.1.CI,R.1.Ch,now,turn,ps,cs,[],[],rd l k b)=some r/\Red l r:=by
 have hrl:=Ce hr;have hcrew:=hrl.2.2.2.2.2.2.2.2.2;unfold XC;dsimp only;obtain⟨nt,k1,b1,e1,e2,e3,e4,e5⟩:=UN (b:=b) hl hk (m:=(R.1.Ae.length:Int)) (by omega);obtain⟨n,rfl⟩:=A2 e3;obtain⟨td,k2,b2,f1,f2,f3,f4⟩:=ft (b:=b1) hl e2 (n:=n) (by omega);obtain⟨c,hc⟩:=A2 (show 0<=R.1.Ch by omega);obtain⟨js,k3,b3,g1,g2,g3,g4⟩:=ft (b:=b2) hl f2 (n:=c) (by omega);rw[e1,AE];dsimp only;rw[f1,AE];dsimp only;have g1':Tp (rd l k2 b2) R.1.Ch=some (js,rd l k3 b3):=by rw[hc];exact g1
 rw[g1',AE];rw[AL7 hl (by dsimp only;omega)];refine AL4 hl (h:=⟨R.1,now,turn,ps,cs,td,js.map jb⟩) rfl ⟨by dsimp only;omega,hps,hcs,hcf,by dsimp only;omega,by dsimp only;rw[AZ];omega⟩ ?_;intro g hg;obtain⟨⟨q1,q2,q3⟩,q4,q5,q6,q7⟩:=ha g hg;have hrt:=NF hg.1;obtain⟨u1,u2,u3⟩:=e5 _ _ q6 (by omega) (by have:=hrt.todo;rw[q1]at this;omega);obtain⟨v1,v2,v3⟩:=f4 _ _ u2 (by omega);obtain⟨w1,w2,w3⟩:=g4 (g.BP.map up) [] (by rw[v2,List.append_nil]) (by rw[AZ];have:=hrt.AFO;rw[q1,hc]at this;omega);have hj:js.map jb=g.BP:=by
  rw[w1,List.map_map]
  conv=>rhs;rw[<-List.map_id g.BP]
  apply List.map_congr_left;intro y hy;have:=hrt.job y hy;exact ALp this.1 this.2
 refine⟨?_,by dsimp only[rd];rw[w3,v3,u3,q7]⟩;rw[hj,v1];cases g
 grind
theorem AL6(hr:EF R.1=true){ps:List AP}{k:Nat}{b:Bool}(hk:k<=l.length)(hps:ps.length<=40)
 (ha:∀g,Good g l->Hd g R.1 now turn/\g.AK=ps/\l.drop k=tl3 g 0/\b=false) :
 ∃r,XB l R ((),R.1.CJ,R.1.Room,R.1.BW,R.1.Bn,R.1.Bi,R.1.Rest,R.1.CI,R.1.Ch,now,turn,ps,[],[],[],rd l k b)=some r/\Red l r:=by
 have hrl:=Ce hr;unfold XB;dsimp only;refine Ts (n:=R.1.Ae.length) (fun i (v:List Aa×Nat×Bool)=>((i:Int),(),R.1.CJ,R.1.Room,R.1.BW,R.1.Bn,R.1.Bi,R.1.Rest,R.1.CI,R.1.Ch,now,turn,ps,v.1,[],[],rd l v.2.1 v.2.2))
  (fun i v=>v.1.length=i/\(∀c∈v.1,Dl c)/\v.2.1<=l.length/\∀g,Good g l->Hd g R.1 now turn/\g.AK=ps/\v.1=g.Ap.take i/\l.drop v.2.1=tl3 g i/\v.2.2=false)
  (Red l) (by omega) ?_ (v:=([],k,b)) ⟨rfl,by simp,hk,fun g hg=>by obtain⟨h1,h2,h3,h4⟩:=ha g hg;exact⟨h1,h2,by simp,h3,h4⟩⟩
 rintro L i ⟨cs,q,c⟩ ⟨g1,gf,g2,g3⟩ hi ih;dsimp only at g1 gf g2 g3 ih ⊢;unfold m9;dsimp only;rcases AY i R.1.Ae.length with h|h
 .have hseat:=hrl.2.2.2.2.2.1 _ (BH h);have hD:R.1.Ae.getD i 0=R.1.Ae[i]:=by simp[List.getD,h]
  obtain⟨fr',q',c',e1,e2,e3,e4,e5⟩:=UN (b:=c) hl g2 (m:=R.1.Ae[i]) (by omega);have hpl:(HL ps (i:Int)).length<=1048576:=by
   unfold HL;rw[Hn];have:=CD (Mn (i:Int)) ps;omega
  have hlim:lim=268435456:=rfl;rw[Bq h,BL,BK h];simp only[AE,e1,T7 (show ps.length<=1048576 by omega),iM hpl,T6 (show ps.length<2 ^ 58 by omega),T9 (show ps.length<2 ^ 58 by omega),C7,PL,PM,PN,PO,No,PQ,PR,Rt (r:=R.1) (show R.1.Ae.length<2 ^ 62 by omega) (show ps.length<=1048576 by omega)];rw[CG (by rw[K6];omega),Bc h (by omega)];have hcab:Aa.mk (Cm.mk R.1.Ae[i] fr' (I5 ps i) (w64 (w64 (R.1.Ae[i]-fr')-I5 ps i)) (Kx ps i)) (Gw R.1 ps i now) (Iu (HL ps i)).1=YS R.1 ps now i fr':=by unfold YS;rw[hD]
  rw[hcab];refine ih (cs++[YS R.1 ps now i fr'],q',c') ⟨by simp[g1],?_,e2,fun g hg=>?_⟩ h
  .intro x hx;rcases List.mem_append.1 hx with hx|hx
   .exact gf x hx
   .rw[DO.1 hx];refine⟨?_,UE _⟩;unfold YS Gw;dsimp only;rw[Hn];have:=CD (ND R.1 (i:Int) now) ps;omega
  .obtain⟨⟨p1,p2,p3⟩,p4,p5,p6,p7⟩:=g3 g hg;have hrt:=NF hg.1;have hic:i<g.Ap.length:=by rw[hrt.H3,p1];exact h
   obtain⟨w1,w2,w3,w4⟩:=hrt.cab i hic;unfold tl3 at p6;rw[Dt hic,AF]at p6;obtain⟨u1,u2,u3⟩:=e5 _ _ p6 w2 (by rw[p1,hD]at w3;exact w3);refine⟨⟨p1,p2,p3⟩,p4,?_,u2,u3.trans p7⟩;rw[By,Ad hic,p5,u1];rw[p1,p4,p2]at w1
   conv=>rhs;rw[w1]
   rfl
 .obtain rfl:i=R.1.Ae.length:=by omega
  rw[Cr,BN,AS];refine AL3 hl hr g2 (by omega) (by omega) gf fun g hg=>?_
  obtain⟨p1,p4,p5,p6,p7⟩:=g3 g hg;have hrt:=NF hg.1;have hn:g.Ap.length=R.1.Ae.length:=by rw[hrt.H3,p1.1]
  refine⟨p1,p4,?_,?_,p7⟩
  .rw[p5,As (by omega)]
  .rw[p6];unfold tl3;rw[A1 (by omega)];rfl
theorem AL5(hr:EF R.1=true){n:Int}{x:Int×Ck}(hx:x.1=n)(hn0:0<=n)(hn:n<=40){k:Nat}{b:Bool}(hk:k<=l.length)
 (ha:∀g,Good g l->Hd g R.1 now turn/\(g.AK.length:Int)=n/\l.drop k=tl2 g 0/\b=false) :
 ∃r,Aw (XD l R x) big (0,(),R.1.CJ,R.1.Room,R.1.BW,R.1.Bn,R.1.Bi,R.1.Rest,R.1.CI,R.1.Ch,now,turn,[],[],[],[],rd l k b)=some r/\Red l r:=by
 have hrl:=Ce hr;obtain⟨m,rfl⟩:=A2 hn0;refine Ts (n:=m) (fun i (v:List AP×Nat×Bool)=>((i:Int),(),R.1.CJ,R.1.Room,R.1.BW,R.1.Bn,R.1.Bi,R.1.Rest,R.1.CI,R.1.Ch,now,turn,v.1,[],[],[],rd l v.2.1 v.2.2))
  (fun i v=>v.1.length=i/\v.2.1<=l.length/\∀g,Good g l->Hd g R.1 now turn/\g.AK.length=m/\v.1=g.AK.take i/\l.drop v.2.1=tl2 g i/\v.2.2=false)
  (Red l) (by omega) ?_ (v:=([],k,b)) ⟨rfl,hk,fun g hg=>by obtain⟨h1,h2,h3,h4⟩:=ha g hg;exact⟨h1,by omega,by simp,h3,h4⟩⟩
 rintro L i ⟨ps,q,c⟩ ⟨g1,g2,g3⟩ hi ih;dsimp only at g1 g2 g3 ih ⊢;unfold XD;dsimp only;rw[hx];rcases AY i m with h|h
 .obtain⟨p,q',c',e1,e2,e3⟩:=AI1 (b:=c) hl g2;rw[Bq h,BL,e1,AE];dsimp only;rw[Mr (by omega),AE,BB];have hag:∀g,Good g l->p=g.AK.getD i ⟨0,0,0,0,0,0,0,0,0,0⟩/\i<g.AK.length/\l.drop q'=tl2 g (i+1)/\c'=false:=by
   intro g hg;obtain⟨p1,p2,p3,p4,p5⟩:=g3 g hg;have hip:i<g.AK.length:=by omega
   have hpo:=Jv ((NF hg.1).par i hip);have hs:=(Ce hpo.1).1;unfold tl2 at p4;rw[Dt hip,List.flatMap_cons,Bg]at p4;obtain⟨u1,u2,u3⟩:=e3 _ _ p4 hpo.2.2.2.2.1.1 (by omega);refine⟨?_,hip,u2,u3.trans p5⟩;rw[u1];simp[List.getD,hip]
  cases hp:FO R.1 p now with
  |true=>
   have hlim:lim=268435456:=rfl;rw[BL,CG (by rw[K6];omega),Bc h (by omega)];refine ih (ps++[p],q',c') ⟨by simp[g1],e2,fun g hg=>?_⟩ h;obtain⟨p1,p2,p3,p4,p5⟩:=g3 g hg;obtain⟨u1,u2,u3,u4⟩:=hag g hg;refine⟨p1,p2,?_,u3,u4⟩;rw[By,Ad u2,p3,u1];simp[List.getD,u2]
  |false=>
   rw[BN];refine⟨_,rfl,Red.bad fun g hg=>?_⟩;obtain⟨p1,p2,p3,p4,p5⟩:=g3 g hg;obtain⟨u1,u2,u3,u4⟩:=hag g hg;have:=(NF hg.1).par i u2;rw[u1]at hp;have e:g.AK.getD i ⟨0,0,0,0,0,0,0,0,0,0⟩=g.AK[i]:=by simp[List.getD,u2]
   rw[e,<-p1.1,<-p1.2.1,this]at hp;cases hp
 .obtain rfl:i=m:=by omega
  rw[Cr,BN,AS];refine AL6 hl hr g2 (by omega) fun g hg=>?_
  obtain⟨p1,p2,p3,p4,p5⟩:=g3 g hg;refine⟨p1,?_,?_,p5⟩
  .rw[p3,As (by omega)]
  .rw[p4];unfold tl2;rw[A1 (by omega)];rfl
end spec
theorem iE{l:List Int}(hl:l.length<=1048576):∃r,m8 l=some r/\Red l r:=by
 unfold m8;obtain⟨sz,k1,b1,a1,a2,a3,a4,a5⟩:=UN (l:=l) (k:=0) (b:=false) hl (Nat.zero_le _) (m:=12) (by omega);obtain⟨s,rfl⟩:=A2 a3;obtain⟨xs,k2,b2,c1,c2,c3,c4⟩:=ft (b:=b1) hl a2 (n:=s) (by omega);have a1':To (Ck.mk l 0 false) 12=some ((s:Int),rd l k1 b1):=a1;rw[a1',AE];dsimp only;rw[c1,AE];dsimp only;rw[iJ (by omega),AE,BB];have hag:∀g,Good g l->xs=H4 g.AR/\l.drop k2=g.Now::g.A4::(g.AK.length:Int)::tl2 g 0/\b2=false:=by
  intro g hg;have hn:=bX hg;have hlen:=L0 g.AR;have hrt:=NF hg.1;obtain⟨u1,u2,u3⟩:=a5 _ _ (by rw[CH];exact hn) (by omega) (by have:=hrt.FJ;omega)
  grind
 cases hR:(H6 xs).2 with
 |false=>
  rw[BN];refine⟨_,rfl,Red.bad fun g hg=>?_⟩;rw[(hag g hg).1,Jk (NF hg.1).rules]at hR;cases hR
 |true=>
  rw[BL];have hrb:=(Y6 hR).1;obtain⟨n1,k3,b3,d1,d2,d3⟩:=fk (b:=b2) hl c2;obtain⟨n2,k4,b4,f1,f2,f3⟩:=fk (b:=b3) hl d2;obtain⟨n3,k5,b5,g1,g2,g3,g4,g5⟩:=UN (b:=b4) hl f2 (m:=40) (by omega);simp only[d1,AE,C7,PL,PM,PN,PO,No,PQ,PR,ic,f1,g1];refine AL5 hl hrb (now:=n1) (turn:=n2) rfl g3 g4 g2 fun g hg=>?_
  obtain⟨q1,q2,q3⟩:=hag g hg;have hrt:=NF hg.1;obtain⟨u1,u2,u3⟩:=d3 _ _ q2;obtain⟨v1,v2,v3⟩:=f3 _ _ u2;obtain⟨w1,w2,w3⟩:=g5 _ _ v2 (by omega) (by have:=hrt.few;omega);refine⟨⟨?_,u1.symm,v1.symm⟩,w1.symm,w2,by rw[w3,v3,u3,q3]⟩;rw[q1,Jk hrt.rules]
end Lv.P
