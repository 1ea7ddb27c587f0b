/- Plain laws about what the program computes. -/
import Derived.Test.YtdmpkjjlnjchkaaGreatKD4
import Derived.Test.YtdmpkjjlnjchkaaGreatPE4
noncomputable section
set_option linter.unusedVariables false
set_option linter.unusedSimpArgs false
set_option linter.unusedSectionVars false
open Bool renaming and_eq_true->AF,not_eq_true'->BR
open Int renaming eq_ofNat_of_zero_le->Ab,toNat_natCast->Ac
open List renaming append_assoc->CR,drop_eq_nil_of_le->BM,drop_zero->C3,ext_getElem->K8,filter_append->J9,filter_cons->Eu,flatten_cons->EZ,getElem?_eq_getElem->AW,getElem_map->K9,getElem_mem->Am,getElem_range->KB,length_cons->AH,length_filterMap_le->B5,length_map->Aj,length_take->BS,map_cons->AJ,map_eq_flatMap->JQ,mem_cons->Ag,mem_cons_of_mem->A3,mem_cons_self->Bm,mem_flatten->Ev,mem_iff_getElem->DF,mem_singleton->EP,pairwise_cons->Bc,pairwise_singleton->H7,take_add_one->CH,take_of_length_le->BQ,take_sublist->HZ
open List.cons renaming injEq->Co
open Nat renaming le_refl->Af,lt_or_ge->AT
namespace Lv.P
open Lv Go
def dt(w:An)(p:A6):An:=⟨w.Ak.set (p.At.tmod 9).toNat (put ltP p (w.Ak.getD (p.At.tmod 9).toNat []))⟩
def PU(w:An)(p:A6):An×Bool:=if HE w=true/\V1 p=true/\HE (dt w p)=true then (dt w p,true) else (w,false)
theorem PH{p:A6}(h:V1 p=true):(1<=p.At/\p.At<=1000008)/\1<=p.Id/\p.Id<=999:=by
 grind[V1,CY]
theorem oB{n:Int}(h:1<=n):∃k:Nat,k<9/\n.tmod 9=(k:Int):=by
 obtain⟨m,rfl⟩:=Ab (show 0<=n by omega);refine⟨m % 9,Nat.mod_lt _ (by omega),?_⟩;rw[Int.tmod_eq_emod_of_nonneg (by omega)];rfl
theorem w7{α:Type}{l:List (List α)}{k:Nat}(h:k<l.length)(x:List α):(l.set k x).flatten.length+l[k].length=l.flatten.length+x.length:=by
 grind[List.set_eq_take_append_cons_drop,List.take_append_drop,List.drop_eq_getElem_cons]
theorem Aef{α:Type}{l:List (List α)}{k:Nat}(h:k<l.length){x:List α}{a:α}(c:a∈x):a∈(l.set k x).flatten:=by
 rw[Ev];exact⟨x,List.mem_set h _,c⟩
theorem zw{w:An}(g:Rs w){p:A6}(j:1<=p.At):C1 (dt w p)/\p∈(dt w p).Ak.flatten:=by
 obtain⟨k,B,e⟩:=oB j;have q:=g.nine;have y:=g.few;unfold dt;rw[e,Ac];have a:k<w.Ak.length:=by omega
 have h:=w7 a (put ltP p (w.Ak.getD k []));have c:w.Ak.getD k []=w.Ak[k]:=by simp[List.getD,a]
 rw[c,Ff]at h;refine⟨⟨by dsimp only;rw[List.length_set];omega,by dsimp only;rw[c];omega⟩,Aef a (au.2 (.inl rfl))⟩
theorem NR{w:An}(g:C1 w)(p:A6):AIX w p=some (PU w p):=by
 unfold AIX BA3;rw[aI g,AB,HU g,AB,BI];by_cases hB:HE w=true
 .have hP:=Du.1 hB;rw[hB,BH,AR,BA];by_cases j:p.At<1
  .rw[if_pos j];unfold PU;rw[if_neg];rintro⟨_,c,_⟩;have:=PH c;omega
  .rw[if_neg j];obtain⟨q,B⟩:=zw hP (p:=p) (by omega);obtain⟨k,H,e⟩:=oB (n:=p.At) (by omega);have G:=hP.nine;have y:=hP.few;have a:k<w.Ak.length:=by omega
   have c:w.Ak.getD k []=w.Ak[k]:=by simp[List.getD,a]
   have E:=I0 a;have h:(An.mk (w.Ak.set k (put ltP p w.Ak[k])))=dt w p:=by unfold dt;rw[e,Ac,c]
   simp only[e,A7 a,AB,dh (l:=w.Ak[k]) (by unfold lim;omega) p,Ac,h,HU q,aI g,BI];unfold PU;cases hB2:HE (dt w p) with
   |false=>rw[BN,if_neg (by simp)]|true=>
    rw[BH,if_pos ⟨hB,(Du.1 hB2).pins p B,rfl⟩]
 grind[BN,AR,BH,PU]
theorem bj{w:An}(E:C1 w)(p:A6):AQ6 w p=some (PU w p):=by
 unfold AQ6 Ara;rw[aH E,AB,Il E,AB,BI];by_cases hB:HE w=true
 .have hP:=Du.1 hB;rw[hB,BH,dP,AB,AR,BI];cases B:V1 p with
  |false=>
   rw[BN];unfold PU;rw[B,if_neg (by simp)]
  |true=>
   have j:=(PH B).1.1;rw[BH];obtain⟨I,hm⟩:=zw hP j;obtain⟨k,Z,e⟩:=oB j;have X:=hP.nine;have J:=hP.few;have a:k<w.Ak.length:=by omega
   have H:w.Ak.getD k []=w.Ak[k]:=by simp[List.getD,a]
   have S:=I0 a;have G:(An.mk (w.Ak.set k (put ltP p w.Ak[k])))=dt w p:=by unfold dt;rw[e,Ac,H]
   have h:∀i:Nat,i<=w.Ak[k].length->∀s:List A6,s=w.Ak[k].take i++p::w.Ak[k].drop i->AIt w p w w.Ak[k] (i:Int)=(bd (nA (An.mk (w.Ak.set k s))) fun x=>br (!x) (some (w,false)) (some (An.mk (w.Ak.set k s),true))):=by
    intro i hi s Q;have g:AQ5 w.Ak[k] (i:Int) [p]=@some (C.l (.st 5)).D s:=by
     show AAH (.st 5) w.Ak[k] (i:Int) [p]=some s;have q:(0:Int)<=i/\(i:Int).toNat<=w.Ak[k].length/\[p]≠([]:List A6)/\w.Ak[k].length+[p].length<=lim:=⟨by omega,by simpa using hi,by simp,by rw[Kc];unfold lim;omega⟩;unfold AAH;refine(if_pos q).trans ?_;rw[Q,Ac];congr 1;exact CR _ _ _
    unfold AIt;have O:Y.Od k 0 [U.sl (C.st 5) s].length [(k,0)]:=⟨rfl,⟨Af _,by simp⟩,trivial⟩;rw[g];refine(AB (α:=List A6) s _).trans ?_;simp only[e,A7 a,AB,Ac,B9 O,aH E]
   simp only[e,A7 a,AB];have hloop:=Zq (lt:=ltP) (F:=A9f w p w w.Ak[k]) (l:=w.Ak[k]) (x:=p) (fun s=>bd (nA (An.mk (w.Ak.set k s))) fun x=>br (!x) (some (w,false)) (some (An.mk (w.Ak.set k s),true))) (by omega) ?_ ?_
   .rw[hloop,G,Il I,AB,BI];unfold PU;cases hB2:HE (dt w p) with|false=>rw[BN,if_neg (by simp)]|true=>rw[BH,if_pos ⟨hB,B,rfl⟩]
   .intro L i hi;unfold A9f AIs;obtain⟨c,q,y,_⟩:=PZ w.Ak[k][i] p;rw[CC hi,BH,A7 hi,AB,q,AB,AR,y,AR,h i (by omega) _ rfl]
   .intro L;unfold A9f AIs;rw[Cp,BN,AR,BN,AR,h _ (Af _) (w.Ak[k]++[p]) (by simp)]
 grind[BN,AR,BH,PU]
theorem jy{w:An}(a:C1 w)(p:A6):C1 (PU w p).1:=by
 grind[PU,zw,Du,PH]
def cG:List A6->An->An×Bool| [],w=>(w,true)|p::ps,w=>if (PU w p).2=true then cG ps (PU w p).1 else (⟨[]⟩,false)
def NT(l:List A6):An×Bool:=cG l ⟨List.replicate 9 []⟩
theorem WM:C1 ⟨List.replicate 9 []⟩:=by constructor<;>simp
theorem ADM{l:List A6}{F:(Int×An->AA (An×Bool))->Int×An->AA (An×Bool)}(hl:l.length<2 ^ 62)
 (step:∀L (i:Nat) (h:i<l.length) w,C1 w->F L ((i:Int),w)=br (!(PU w l[i]).2) (some (⟨[]⟩,false)) (L (w64 ((i:Int)+1),(PU w l[i]).1)))
 (stop:∀L w,F L ((l.length:Int),w)=some (w,true)):A4 F big (0,⟨List.replicate 9 []⟩)=some (NT l):=by
 refine(C6 (n:=l.length) (fun i (w:An)=>((i:Int),w)) (fun _ w=>C1 w) (fun i w=>some (cG (l.drop i) w)) (by omega) ?_ (v:=⟨List.replicate 9 []⟩) WM).trans (by simp[NT]);intro L i w a hi c;rcases AT i l.length with h|h
 .rw[step L i h w a,BU h (by omega),DW h,cG,BI];cases e:(PU w l[i]).2 with|true=>rw[BH,c _ (jy a _) h];rfl|false=>rfl
 grind[cG]
theorem AGK{l:List A6}(hl:l.length<=1048576):Lf l=some (NT l):=by
 unfold Lf;rw[Vu,AB];refine ADM (by omega) ?_ ?_
 .intro L i h w a;unfold Ajd
  grind[BH,A7,AB,NR,Cw]
 grind[Ajd,Al1,BN,AR]
theorem AE2{l:List A6}(hl:l.length<=1048576):AIy l=some (NT l):=by
 unfold AIy;rw[yY,AB]
 grind[ADM,AmD,BH,A7,AB,bj,AmC,BN,AR]
theorem ADN:∀(l:List A6) {w:An},C1 w->C1 (cG l w).1
 | [],w,a=>a|p::ps,w,a=>by
  unfold cG;split
  .exact ADN ps (jy a p)
  .constructor<;>simp
theorem oC(l:List A6):C1 (NT l).1:=ADN l WM
section
variable{α:Type}{lt:α->α->Bool}
theorem Hc(a:α)(l:List α):DX lt (a::l)=put lt a (DX lt l):=rfl
theorem yC(h:Swo lt)(B:∀a b,lt a b=false->lt b a=false->a=b){g j:List α}(q:g.Perm j):DX lt g=DX lt j:=by
 induction q with
 |nil=>rfl|cons x _ E=>rw[Hc,Hc,E]|swap x y l=>rw[Hc,Hc,Hc,Hc,AFt h B]|trans _ _ c e=>exact c.trans e
theorem AMH{a:α}{l:List α}(h:∀b∈l,lt b a=false):put lt a l=a::l:=by
 cases l with
 |nil=>rfl|cons z l=>rw[put,if_neg (by rw[h z (Bm ..)];simp)]
theorem AMI{a:α}:∀{l:List α},(∀b∈l,lt b a=true)->put lt a l=l++[a]
 | [],_=>rfl|z::l,h=>by
  rw[put,if_pos (h z (Bm ..)),AMI fun b c=>h b (A3 _ c)];rfl
theorem ADA(h:Swo lt){a z:α}{l:List α}(y:Srt lt (z::l))(j:lt z a=false):∀b∈z::l,lt b a=false:=by
 intro b g;rcases Ag.1 g with rfl|g
 .exact j
 .have q:=(Bc.1 y).1 b g;cases e:lt b a with
  |false=>rfl|true=>
   rcases h.neg b z a e with c|c
   .rw[q]at c;cases c
   .rw[j]at c;cases c
theorem AT5(h:Swo lt)(a:α):∀{l:List α},Srt lt l->Srt lt (put lt a l)
 | [],_=>H7 _ _|z::l,c=>by
  rw[put];split
  .rename_i g;refine Bc.2 ⟨?_,AT5 h a (Bc.1 c).2⟩;intro b e;rcases au.1 e with rfl|e
   .exact h.ADY _ _ g
   .exact(Bc.1 c).1 b e
  .rename_i g;exact Bc.2 ⟨ADA h c (by simpa using g),c⟩
theorem aX(h:Swo lt):∀l:List α,Srt lt (DX lt l)| []=>List.Pairwise.nil|a::l=>AT5 h a (aX h l)
theorem cV(h:Swo lt)(q:α->Bool)(a:α):∀{l:List α},Srt lt l->(put lt a l).filter q=if q a=true then put lt a (l.filter q) else l.filter q
 | [],_=>by by_cases e:q a=true<;>simp[put,e]|z::l,c=>by
  have j:=cV h q a (Bc.1 c).2;rw[put];split
  .grind[put]
  .rename_i g;have habove:=ADA h c (by simpa using g);rw[Eu]
   grind[AMH]
theorem O9(h:Swo lt)(q:α->Bool):∀l:List α,(DX lt l).filter q=DX lt (l.filter q)
 | []=>rfl|a::l=>by
  rw[Hc,cV h q a (aX h l),O9 h q l,Eu]
  grind[Hc]
theorem UB(h:Swo lt):∀{l:List α},(l.Pairwise fun a b=>lt a b=true)->DX lt l=l
 | [],_=>rfl|a::l,c=>by
  rw[Hc,UB h (Bc.1 c).2,AMH];intro b e;exact h.ADY _ _ ((Bc.1 c).1 b e)
theorem Pr(h:Swo lt):∀{l:List α},(∀k (q:k+1<l.length),lt l[k] l[k+1]=true)->l.Pairwise fun a b=>lt a b=true
 | [],_=>List.Pairwise.nil| [a],_=>H7 _ _|a::b::l,j=>by
  have y:=Pr h (l:=b::l) fun k q=>j (k+1) (by simpa using q)
  have g:lt a b=true:=j 0 (by simp);refine Bc.2 ⟨?_,y⟩;intro c e;rcases Ag.1 e with rfl|e
  .exact g
  .exact h.trans g ((Bc.1 y).1 c e)
end
theorem i5{α β:Type}{f g:β->List α}:∀{l:List β},(∀i∈l,(f i).Sublist (g i))->(l.map f).flatten.Sublist (l.map g).flatten
 | [],_=>List.Sublist.slnil|i::l,h=>by
  simp only[AJ,EZ];exact(h i (Bm ..)).append (i5 fun j a=>h j (A3 _ a))
def GI(i:Nat)(p:A6):Bool:=p.At.tmod 9==(i:Int)
theorem LK{i:Nat}{p:A6}:GI i p=true↔p.At.tmod 9=(i:Int):=by unfold GI;exact beq_iff_eq
theorem dj{w:An}(B:Rs w){i:Nat}(hi:i<w.Ak.length):(w.Ak.flatten).filter (GI i)=w.Ak[i]:=by
 have g:∀j (a:j<w.Ak.length),∀p∈w.Ak[j],p.At.tmod 9=(j:Int):=by
  intro j a p c;obtain⟨k,h,rfl⟩:=DF.1 c;exact B.at_ j a k h
 have e:w.Ak.flatten=(w.Ak.take i).flatten++(w.Ak[i]++(w.Ak.drop (i+1)).flatten):=by
  conv=>lhs;rw[<-List.take_append_drop i w.Ak,List.drop_eq_getElem_cons hi]
  simp only[List.flatten_append,EZ]
 have E:((w.Ak.take i).flatten).filter (GI i)=[]:=by
  grind[List.filter_eq_nil_iff,List.mem_flatten,List.mem_iff_getElem,LK]
 have G:((w.Ak.drop (i+1)).flatten).filter (GI i)=[]:=by
  rw[List.filter_eq_nil_iff];intro p c;obtain⟨s,y,q⟩:=Ev.1 c;obtain⟨j,a,rfl⟩:=DF.1 y
  grind[LK]
 grind[GI,List.filter_eq_self]
def jx(S:List A6)(j:Nat):An:=⟨(List.range 9).map fun i=>(S.take j).filter (GI i)⟩
theorem mn{w:An}(a:Rs w):w=⟨(List.range 9).map fun i=>(DX ltP w.Ak.flatten).filter (GI i)⟩:=by
 have e:=a.nine;cases w with
 |mk sp=>
  congr 1;dsimp only at e a ⊢;apply K8
  .simp[e]
  .intro i c g;rw[K9,KB,O9 FG,dj a c];exact(UB FG (Pr FG (a.srt i c))).symm
theorem Aas{w:An}(e:Rs w)(j:Nat):Rs (jx (DX ltP w.Ak.flatten) j):=by
 have c:(jx (DX ltP w.Ak.flatten) j).Ak.flatten.Sublist w.Ak.flatten:=by
  conv=>rhs;rw[mn e]
  exact i5 fun i _=>(HZ _ _).filter _
 have E:∀i (h:i<(jx (DX ltP w.Ak.flatten) j).Ak.length),(jx (DX ltP w.Ak.flatten) j).Ak[i]=((DX ltP w.Ak.flatten).take j).filter (GI i):=by
  intro i h;simp only[jx,K9,KB]
 have q:∀i,i<9->(((DX ltP w.Ak.flatten).take j).filter (GI i)).Pairwise fun a b=>ltP a b=true:=by
  intro i hi;have g:i<w.Ak.length:=by rw[e.nine];exact hi
  have y:((DX ltP w.Ak.flatten).filter (GI i))=w.Ak[i]:=by
   rw[O9 FG,dj e g];exact UB FG (Pr FG (e.srt i g))
  refine List.Pairwise.sublist ((HZ _ _).filter _) ?_;rw[y];exact Pr FG (e.srt i g)
 refine⟨by simp[jx],Nat.le_trans c.length_le e.few,fun p B=>e.pins p (c.subset B),e.ids.sublist c,?_,?_⟩
 .grind[ltP,LK]
 grind[jx,List.pairwise_iff_getElem]
theorem Ac2{w:An}(h:Rs w){j:Nat}(L:j<(DX ltP w.Ak.flatten).length):dt (jx (DX ltP w.Ak.flatten) j) (DX ltP w.Ak.flatten)[j]=jx (DX ltP w.Ak.flatten) (j+1):=by
 have I:(DX ltP w.Ak.flatten)[j]∈w.Ak.flatten:=UC.1 (Am L);obtain⟨k,O,e⟩:=oB (PH (h.pins _ I)).1.1;have Q:(DX ltP w.Ak.flatten).Pairwise fun a b=>ltP b a=false:=aX FG _
 have J:(DX ltP w.Ak.flatten).take (j+1)=(DX ltP w.Ak.flatten).take j++[(DX ltP w.Ak.flatten)[j]]:=by rw[CH,AW L];rfl
 generalize hS:DX ltP w.Ak.flatten=S at *;have g:∀(q:A6->Bool),q S[j]=true->(∀b∈(S.take j).filter q,ltP b S[j]=true)->put ltP S[j] ((S.take j).filter q)=(S.take (j+1)).filter q:=by
  intro q Z c;rw[AMI c,J,J9];simp[Z]
 have H:∀b∈(S.take j).filter (GI k),ltP b S[j]=true:=by
  intro b Y;have E:k<w.Ak.length:=by rw[h.nine];exact O
  have y:S.filter (GI k)=w.Ak[k]:=by
   rw[<-hS,O9 FG,dj h E];exact UB FG (Pr FG (h.srt k E))
  have B:((S.take (j+1)).filter (GI k)).Pairwise fun a b=>ltP a b=true:=by
   refine List.Pairwise.sublist ((HZ _ _).filter _) ?_;rw[y];exact Pr FG (h.srt k E)
  rw[J,J9]at B;have X:([S[j]]:List A6).filter (GI k)=[S[j]]:=by simp[LK.2 e]
  rw[X]at B;exact(List.pairwise_append.1 B).2.2 b Y _ (EP.2 rfl)
 unfold dt jx;rw[e,Ac];congr 1;apply K8
 .simp
 .intro i h1 y;have hi:i<9:=by simpa using y
  rw[List.getElem_set];have hD:(((List.range 9).map fun i=>(S.take j).filter (GI i)).getD k [])=(S.take j).filter (GI k):=by simp[List.getD,O]
  split
  .rename_i G;subst G;rw[hD,g _ (LK.2 e) H];simp
  .grind[LK]
theorem AAS{w:An}(c:Rs w):NT (DX ltP w.Ak.flatten)=(w,true):=by
 have key:∀m j,j+m=(DX ltP w.Ak.flatten).length->cG ((DX ltP w.Ak.flatten).drop j) (jx (DX ltP w.Ak.flatten) j)=(w,true):=by
  intro m
  induction m with
  |zero=>
   grind[cG,jx,mn]
  |succ m g=>
   intro j h;have a:j<(DX ltP w.Ak.flatten).length:=by omega
   have e:PU (jx (DX ltP w.Ak.flatten) j) (DX ltP w.Ak.flatten)[j]=(jx (DX ltP w.Ak.flatten) (j+1),true):=by
    unfold PU;rw[Ac2 c a,if_pos];exact⟨Du.2 (Aas c j),c.pins _ (UC.1 (Am a)),Du.2 (Aas c (j+1))⟩
   rw[DW a,cG,e,if_pos rfl];exact g (j+1) (by omega)
 have:=key (DX ltP w.Ak.flatten).length 0 (by omega);rw[C3]at this;exact this
def Good(h:AD)(l:List Int):Prop:=DR h=true/\Bp h/\GH h=l
def AGb:AZ:=⟨[],0,0,0,0,0,0,0,0⟩
def MI:AD:=⟨AGb,0,0,[],[],[],[]⟩
def Red(l:List Int)(r:AD×Bool):Prop:=(r.2=true->Good r.1 l/\∀h,Good h l->h=r.1)/\(r.2=false->r.1=MI/\∀h,¬Good h l)
theorem Red.one{l:List Int}{r a:AD×Bool}(h:Red l r)(q:Red l a):r=a:=by
 obtain⟨g,b⟩:=r;obtain⟨g',j⟩:=a;obtain⟨y,c⟩:=h;obtain⟨B,e⟩:=q;dsimp only at y c B e;cases b<;>cases j
 .rw[(c rfl).1,(e rfl).1]
 .grind
 .grind
 grind
theorem Red.bad{l:List Int}(h:∀h,¬Good h l):Red l (MI,false):=⟨fun h=>(by cases h),fun _=>⟨rfl,h⟩⟩
def fr(c:AY):Int:=c.AV.DT
def up(x:Int):Int:=w64 (x+1)
theorem yc(h:AD):GH h=((LO h.AO).length:Int)::(LO h.AO++(h.Now::h.Ap::(h.AG.length:Int)::(h.AG.flatMap Ma++(h.AI.map fr++((h.BC.length:Int)::(h.BC++h.A8.map up)))))):=by
 have a:∀l:List AY,l.flatMap (fun c=>[c.AV.DT])=l.map fr:=fun l=>by rw[JQ];rfl
 have e:∀l:List Int,l.flatMap (fun x=>[w64 (x+1)])=l.map up:=fun l=>by rw[JQ];rfl
 grind[GH]
def yU(r:AZ)(ps:List AK)(now:Int)(i:Nat)(free:Int):AY:=
 ⟨⟨r.AV.getD i 0,free,Jk ps i,w64 (w64 (r.AV.getD i 0-free)-Jk ps i),KE ps i⟩,D3 r ps i now,(NT (GJ ps i)).1⟩
theorem Acs{t:List Int}{n:Nat}(H:n<=4)(h:Jw t n=true):t.length<=n:=by
 by_cases c:t.length<=n
 .exact c
 .exfalso;have a:∀k (B:k<t.length),0<=t[k]/\t[k]<n/\∀j (G:j<k),t[j]≠t[k]:=by
   intro k B;have y:=KD.1 h k B;unfold WH at y;rw[Cc B,AF,CY,Ai (by omega) (by omega)]at y;refine⟨y.1.1,by omega,fun j G e=>?_⟩;have E:=y.2;simp only[BR,List.any_eq_false,beq_iff_eq]at E;refine E t[j] ?_ e;rw[DF];exact⟨j,by rw[BS];omega,by rw[List.getElem_take]⟩
  have I:=a 0 (by omega)
  match n,H,c,a with
  |0,_,c,a=>have:=a 0 (by omega);omega|1,_,c,a=>
   have a0:=a 0 (by omega);have g:=a 1 (by omega);have:=g.2.2 0 (by omega);omega
  |2,_,c,a=>
   have a0:=a 0 (by omega);have g:=a 1 (by omega);have q:=a 2 (by omega);have:=g.2.2 0 (by omega);have:=q.2.2 0 (by omega);have:=q.2.2 1 (by omega);omega
  |3,_,c,a=>
   have a0:=a 0 (by omega);have g:=a 1 (by omega);have q:=a 2 (by omega);have a3:=a 3 (by omega);have:=g.2.2 0 (by omega);have:=q.2.2 0 (by omega);have:=q.2.2 1 (by omega);have:=a3.2.2 0 (by omega);have:=a3.2.2 1 (by omega);have:=a3.2.2 2 (by omega);omega
  |4,_,c,a=>
   have a0:=a 0 (by omega);have g:=a 1 (by omega);have q:=a 2 (by omega);have a3:=a 3 (by omega);have a4:=a 4 (by omega)
   grind
structure AiP(h:AD):Prop where
 rules:Dp h.AO=true
 Dd:1<=h.AO.AV.length/\h.AO.AV.length<=4
 AiQ:1<=h.AO.Cs/\h.AO.Cs<=3
 few:h.AG.length<=40
 par:∀i (hi:i<h.AG.length),D9 h.AO h.AG[i] h.Now=true
 EG:h.AI.length=h.AO.AV.length
 cab:∀i (hi:i<h.AI.length),h.AI[i]=yU h.AO h.AG h.Now i (fr h.AI[i])/\0<=fr h.AI[i]/\fr h.AI[i]<=h.AO.AV.getD i 0/\DQ h.AG i<=10
 todo:h.BC.length<=h.AO.AV.length
 Wm:(h.A8.length:Int)=h.AO.Cs
 job:∀x∈h.A8,-1<=x/\x<4
theorem AFq{w:An}(a:HE w=true):(NT (Eo w)).1=w:=by
 unfold Eo;rw[if_pos a,AAS (Du.1 a)]
theorem RG{h:AD}(O:DR h=true):AiP h:=by
 obtain⟨q,h2,h3,E,G,H,I,J,L,g⟩:=J0 O;have j:=CT q;have hcrew:1<=h.AO.Cs/\h.AO.Cs<=3:=j.2.2.2.2.2.2.2.2.2;refine⟨q,j.1,hcrew,E,?_,G,?_,?_,L,?_⟩
 .intro i hi;have:=KD.1 H i hi;unfold nj at this;rw[Cc hi,AF]at this;exact this.1
 .intro i hi;have y:i<h.AO.AV.length:=by omega
  have a:=KD.1 g i hi;unfold eJ at a;rw[Cc hi,Cc y]at a;unfold Ki Mg Eh at a;simp only[AF,beq_iff_eq,CY,BR,decide_eq_false_iff_not,IK ou,IK oz]at a;obtain⟨S,⟨⟨⟨l1,l2,l3,l4,l5,l6⟩,k3,X⟩,Y,Z,k7,k8⟩,k9⟩:=a;have hD:h.AO.AV.getD i 0=h.AO.AV[i]:=by simp[List.getD,y]
  have hroom:=j.2.2.1;have B:=AFq X;rw[Z]at B;unfold yU fr;rw[hD,<-Y,<-k7,<-k8,<-S,B];generalize h.AI[i]=c at *;obtain⟨⟨t,f,e,s,td⟩,row,wh⟩:=c;dsimp only at *;have e1:w64 (f+e)=f+e:=Ai (by omega) (by omega);have e2:w64 (f+e+s)=f+e+s:=Ai (by omega) (by omega)
  grind[Ai]
 .have:=Acs (by omega) I;omega
 .intro x Q;have:=List.all_eq_true.1 J x Q;rw[CY,Ai (by omega) (by omega)]at this;omega
def ME(l:List Int):AZ×Bool:=
 match l with
 |a::b::c::d::e::f::g::i::x::s=>if Dp ⟨x::s,a,b,c,d,e,f,g,i⟩=true then (⟨x::s,a,b,c,d,e,f,g,i⟩,true) else (AGb,false)|_=>(AGb,false)
theorem zA{l:List Int}(h:(ME l).2=true):Dp (ME l).1=true/\LO (ME l).1=l:=by
 unfold ME at *;split at h
 .split at h
  .rename_i a;rw[if_pos a];exact⟨a,rfl⟩
  .cases h
 .cases h
theorem PJ{r:AZ}(h:Dp r=true):ME (LO r)=(r,true):=by
 have j:=(CT h).1.1;obtain⟨s,a,b,c,d,e,f,g,i⟩:=r
 match s,j with
 |x::s,_=>
  show (if Dp _=true then _ else _)=_;rw[if_pos h]
theorem AGJ{l:List Int}(hl:l.length<=1048576):AA3 l=some (ME l):=by
 unfold AA3
 match l,hl with
 | [],_=>rfl| [_],_=>rfl| [_,_],_=>rfl| [_,_,_],_=>rfl| [_,_,_,_],_=>rfl| [_,_,_,_,_],_=>rfl| [_,_,_,_,_,_],_=>rfl| [_,_,_,_,_,_,_],_=>rfl| [_,_,_,_,_,_,_,_],_=>rfl|a::b::c::d::e::f::g::i::x::s,hl=>
  simp only[AH]at hl;have O:(x::s).length<2 ^ 62:=by simp only[AH];omega
  rw[BA,if_neg (by simp only[AH];omega)];have h:at? (a::b::c::d::e::f::g::i::x::s) 0=some a:=rfl;have j:at? (a::b::c::d::e::f::g::i::x::s) 1=some b:=rfl;have q:at? (a::b::c::d::e::f::g::i::x::s) 2=some c:=rfl;have y:at? (a::b::c::d::e::f::g::i::x::s) 3=some d:=rfl;have B:at? (a::b::c::d::e::f::g::i::x::s) 4=some e:=rfl;have E:at? (a::b::c::d::e::f::g::i::x::s) 5=some f:=rfl;have G:at? (a::b::c::d::e::f::g::i::x::s) 6=some g:=rfl;have H:at? (a::b::c::d::e::f::g::i::x::s) 7=some i:=rfl;have I:List.drop (Int.toNat 8) (a::b::c::d::e::f::g::i::x::s)=x::s:=rfl;have J:(0:Int)<=8/\(8:Int)<=((a::b::c::d::e::f::g::i::x::s).length:Int):=by simp only[AH];omega
  have hlim:lim=268435456:=rfl;have L:0+(x::s).length<=lim:=by simp only[AH];omega
  simp only[h,j,q,y,B,E,G,H,I,AB,B9 J,B9 L,Cw,Ja,Jb,Jc,Jd,I9,Je,Jf,List.nil_append,HS (r:=⟨x::s,a,b,c,d,e,f,g,i⟩) O,BI];unfold ME;dsimp only;cases Dp ⟨x::s,a,b,c,d,e,f,g,i⟩<;>rfl
theorem AE1{l:List Int}(hl:l.length<=1048576):AQ4 l=some (ME l):=by
 unfold AQ4
 match l,hl with
 | [],_=>rfl| [_],_=>rfl| [_,_],_=>rfl| [_,_,_],_=>rfl| [_,_,_,_],_=>rfl| [_,_,_,_,_],_=>rfl| [_,_,_,_,_,_],_=>rfl| [_,_,_,_,_,_,_],_=>rfl| [_,_,_,_,_,_,_,_],_=>rfl|a::b::c::d::e::f::g::i::x::s,hl=>
  simp only[AH]at hl;have O:(x::s).length<2 ^ 62:=by simp only[AH];omega
  rw[BA,if_neg (by simp only[AH];omega)];have h:at? (a::b::c::d::e::f::g::i::x::s) 0=some a:=rfl;have j:at? (a::b::c::d::e::f::g::i::x::s) 1=some b:=rfl;have q:at? (a::b::c::d::e::f::g::i::x::s) 2=some c:=rfl;have y:at? (a::b::c::d::e::f::g::i::x::s) 3=some d:=rfl;have B:at? (a::b::c::d::e::f::g::i::x::s) 4=some e:=rfl;have E:at? (a::b::c::d::e::f::g::i::x::s) 5=some f:=rfl;have G:at? (a::b::c::d::e::f::g::i::x::s) 6=some g:=rfl;have H:at? (a::b::c::d::e::f::g::i::x::s) 7=some i:=rfl;have I:List.drop (Int.toNat 8) (a::b::c::d::e::f::g::i::x::s)=x::s:=rfl;have J:(0:Int)<=8/\(8:Int)<=((a::b::c::d::e::f::g::i::x::s).length:Int):=by simp only[AH];omega
  have L:AYF (x::s)=some (x::s):=eM (by simp only[AH];omega);simp only[h,j,q,y,B,E,G,H,I,AB,B9 J,L,Cw,Ja,Jb,Jc,Jd,I9,Je,Jf,HO (r:=⟨x::s,a,b,c,d,e,f,g,i⟩) O,BI];unfold ME;dsimp only;cases Dp ⟨x::s,a,b,c,d,e,f,g,i⟩<;>rfl
theorem Adu(x y:Int):(x==y)=true↔x=y:=beq_iff_eq
theorem Jv{a b:List Int}(hl:a.length<2 ^ 62):AA4 a b=some (Eb (·==·) a b):=by
 grind[AA4,Zv,AwT,BH,A7,AB,As8,BN,AR]
theorem RX{a b:List Int}(hl:a.length<2 ^ 62):sS a b=some (Eb (·==·) a b):=by
 grind[sS,Zv,sT,BH,A7,AB,AIz,BN,AR]
def rd(l:List Int)(k:Nat)(b:Bool):Db:=⟨l,(k:Int),b⟩
theorem AFJ{l:List Int}{k:Nat}{b:Bool}(hl:l.length<=1048576)(q:k<=l.length) :
 ∃n a c,AQu (rd l k b)=some (n,rd l a c)/\a<=l.length/\∀x rest,l.drop k=x::rest->n=x/\l.drop a=rest/\c=b:=by
 unfold AQu;rw[BA];rcases AT k l.length with h|h
 .rw[if_neg (show ¬((rd l k b).at_>=((rd l k b).Za.length:Int)) from by show ¬((k:Int)>=(l.length:Int));omega)];have g:w64 ((k:Int)+1)=((k+1:Nat):Int):=BU h (by omega);have j:w64 (((k+1:Nat):Int)-1)=(k:Int):=by rw[Ai (by omega) (by omega)];omega
  show ∃n a c,(bd (at? l (w64 (w64 ((k:Int)+1)-1))) fun y=>some (y,Db.mk l (w64 ((k:Int)+1)) b))=_/\_;rw[g,j,A7 h,AB];refine⟨_,k+1,b,rfl,by omega,fun x rest e=>?_⟩
  grind[DW]
 .rw[if_pos (show (rd l k b).at_>=((rd l k b).Za.length:Int) from by show (k:Int)>=(l.length:Int);omega)];refine⟨0,k,true,rfl,q,fun x rest e=>?_⟩;rw[BM h]at e;cases e
theorem oX{l:List Int}{k:Nat}{b:Bool}(hl:l.length<=1048576)(y:k<=l.length){m:Int}(B:0<=m) :
 ∃n a c,rl (rd l k b) m=some (n,rd l a c)/\a<=l.length/\0<=n/\n<=m/\∀x rest,l.drop k=x::rest->0<=x->x<=m->n=x/\l.drop a=rest/\c=b:=by
 obtain⟨n,a,c,g,h,q⟩:=AFJ (b:=b) hl y;unfold rl;rw[g,AB,Gv,AB,BI];cases e:inB n 0 m with
 |true=>
  rw[CY]at e;exact⟨n,a,c,rfl,h,e.1,e.2,fun x rest j _ _=>q x rest j⟩
 |false=>
  refine⟨0,a,true,rfl,h,by omega,B,fun x rest j E g=>?_⟩
  grind[inB]
theorem AFM{l:List Int}{k:Nat}{b:Bool}(hl:l.length<=1048576)(Z:k<=l.length){n:Nat}(hn:n<=1048576) :
 ∃xs a e,AQv (rd l k b) (n:Int)=some (xs,rd l a e)/\a<=l.length/\xs.length=n/\∀ys rest,l.drop k=ys++rest->ys.length=n->xs=ys/\l.drop a=rest/\e=b:=by
 unfold AQv;have key:=Hl (F:=As6 (n:Int)) (n:=n) (fun i (v:List Int×Nat×Bool)=>(v.1,(i:Int),rd l v.2.1 v.2.2))
  (fun i v=>v.1.length=i/\v.2.1<=l.length/\∀ys rest,l.drop k=ys++rest->ys.length=n->v.1=ys.take i/\l.drop v.2.1=ys.drop i++rest/\v.2.2=b)
  (fun r:List Int×Db=>∃a e,r.2=rd l a e/\a<=l.length/\r.1.length=n/\∀ys rest,l.drop k=ys++rest->ys.length=n->r.1=ys/\l.drop a=rest/\e=b) (by omega) ?_ (v:=([],k,b)) ⟨rfl,Z,fun ys rest h _=>⟨by simp,by simpa using h,rfl⟩⟩
 .obtain⟨r,hr,a,e,y,S,X,Y⟩:=key;exact⟨r.1,a,e,by rw[<-y];exact hr,S,X,Y⟩
 .rintro L i ⟨xs,q,c⟩ ⟨B,E,G⟩ hi H;dsimp only at B E G H ⊢;unfold As6;dsimp only;rcases AT i n with h|h
  .obtain⟨x,q',I,J,O,Q⟩:=AFJ (b:=c) hl E;have hlim:lim=268435456:=rfl;rw[CC h,BH,J,AB,B9 (by rw[Kc];omega),BU h (by omega)];refine H (xs++[x],q',I) ⟨by simp[B],O,fun ys rest hy j=>?_⟩ h;obtain⟨p1,p2,p3⟩:=G ys rest hy j;have g:i<ys.length:=by omega
   rw[DW g]at p2;obtain⟨u1,u2,u3⟩:=Q _ _ p2;refine⟨?_,u2,u3.trans p3⟩;rw[p1,u1,CH,AW g];rfl
  .obtain rfl:i=n:=by omega
   rw[Cp,BN,AR];unfold BCf
   grind
theorem ten{α:Type}{l:List α}(h:l.length=10):∃a b c d e f g i j k,l=[a,b,c,d,e,f,g,i,j,k]:=by
 match l,h with
 | [a,b,c,d,e,f,g,i,j,k],_=>exact⟨a,b,c,d,e,f,g,i,j,k,rfl⟩
theorem AeN{l:List Int}{k:Nat}{b:Bool}(hl:l.length<=1048576)(hk:k<=l.length) :
 ∃p B E,AQw (rd l k b)=some (p,rd l B E)/\B<=l.length/\∀(q:AK) rest,l.drop k=Ma q++rest -> -1<=q.Bl->q.Bl<=1048576->p=q/\l.drop B=rest/\E=b:=by
 obtain⟨xs,B,E,Z,h2,h3,h4⟩:=AFM (b:=b) hl hk (n:=10) (by omega);obtain⟨a0,c,a,a3,a4,e,g,h,j,y,rfl⟩:=ten h3;unfold AQw;rw[show (10:Int)=((10:Nat):Int) from rfl,Z,AB];have G:at? [a0,c,a,a3,a4,e,g,h,j,y] 0=some a0:=rfl;have H:at? [a0,c,a,a3,a4,e,g,h,j,y] 1=some c:=rfl;have I:at? [a0,c,a,a3,a4,e,g,h,j,y] 2=some a:=rfl;have J:at? [a0,c,a,a3,a4,e,g,h,j,y] 3=some a3:=rfl;have L:at? [a0,c,a,a3,a4,e,g,h,j,y] 4=some a4:=rfl;have O:at? [a0,c,a,a3,a4,e,g,h,j,y] 5=some e:=rfl;have Q:at? [a0,c,a,a3,a4,e,g,h,j,y] 6=some g:=rfl;have S:at? [a0,c,a,a3,a4,e,g,h,j,y] 7=some h:=rfl;have X:at? [a0,c,a,a3,a4,e,g,h,j,y] 8=some j:=rfl;have Y:at? [a0,c,a,a3,a4,e,g,h,j,y] 9=some y:=rfl;simp only[G,H,I,J,L,O,Q,S,X,Y,AB,Ns];refine⟨_,B,E,rfl,h2,fun q rest hq hf hf2=>?_⟩;obtain⟨p1,p2,p3⟩:=h4 (Ma q) rest hq rfl;refine⟨?_,p2,p3⟩;unfold Ma at p1;simp only[Co,and_true]at p1;obtain⟨q0,q1,q2,q3,q4,q5,q6,q7,q8,q9⟩:=p1;rw[Ai (by omega) (by omega)]at q2;have hfrom:w64 ((if a>0 then a else 0)-1)=q.Bl:=by
  grind[Ai]
 rw[hfrom,q0,q1,q3,q4,q5,q6,q7,q8,q9]
def tl4(g:AD):List Int:=(g.BC.length:Int)::(g.BC++g.A8.map up)
def tl3(g:AD)(i:Nat):List Int:=(g.AI.drop i).map fr++tl4 g
def tl2(g:AD)(i:Nat):List Int:=(g.AG.drop i).flatMap Ma++tl3 g 0
theorem ACQ{g:AD}{l:List Int}(h:Good g l):l=((LO g.AO).length:Int)::(LO g.AO++(g.Now::g.Ap::(g.AG.length:Int)::tl2 g 0)):=by
 rw[<-h.2.2,yc];simp only[tl2,tl3,tl4,C3]
def Hd(g:AD)(R:AZ)(now turn:Int):Prop:=g.AO=R/\g.Now=now/\g.Ap=turn
theorem ACU{h:AD}{R:AZ}(hR:h.AO=R):AD.mk (AZ.mk R.AV R.CJ R.Room R.A2 R.CB R.Bq R.Rest R.CL R.Cs) h.Now h.Ap h.AG h.AI h.BC h.A8=h:=by
 subst hR;rfl
theorem Uf{a b:List Int}:Eb (·==·) a b=true↔a=b:=IK Adu
def jb(j:Int):Int:=w64 ((if j > -5 then j else -5)-1)
theorem AhD{x:Int}(h:-1<=x)(a:x<4):jb (up x)=x:=by
 unfold jb up
 grind[Ai]
section spec
variable{l:List Int}(hl:l.length<=1048576){R:AZ×Bool}{now turn:Int}
include hl
theorem AhO{x:List Int×Db}{h:AD}(hR:h.AO=R.1)(e:Bp h)(c:∀g,Good g l->g=h/\x.2.AGs=false) :
 ∃r,A82 l R x ((),R.1.CJ,R.1.Room,R.1.A2,R.1.CB,R.1.Bq,R.1.Rest,R.1.CL,R.1.Cs,h.Now,h.Ap,h.AG,h.AI,h.BC,h.A8)=some r/\Red l r:=by
 unfold A82 A9a;dsimp only;rw[ACU hR];cases q:x.2.AGs with
 |true=>
  rw[BH,AR,BH];exact⟨_,rfl,Red.bad fun g a=>by have:=(c g a).2;rw[q]at this;cases this⟩
 |false=>
  rw[BN,GW e,AB,BI];cases hB:DR h with
  |false=>
   rw[BN,AR,BH];exact⟨_,rfl,Red.bad fun g a=>by rw[(c g a).1]at a;rw[a.1]at hB;cases hB⟩
  |true=>
   have B:=aa e hB;rw[BH,AC9 e hB,AB,Jv (by omega),AB,AR,BI];cases j:Eb (·==·) (GH h) l with
   |true=>
    rw[BH];exact⟨_,rfl,fun _=>⟨⟨hB,e,Uf.1 j⟩,fun g a=>(c g a).1⟩,fun y=>by cases y⟩
   |false=>
    rw[BN];refine⟨_,rfl,Red.bad fun g a=>?_⟩;rw[(c g a).1]at a;rw[Uf.2 a.2.2]at j;cases j
theorem AhR{x:List Int×Db}{ps:List AK}{cs:List AY}{td:List Int}(g:x.1.length<=1048576) :
 A4 (BA1 l R x) big (0,(),R.1.CJ,R.1.Room,R.1.A2,R.1.CB,R.1.Bq,R.1.Rest,R.1.CL,R.1.Cs,now,turn,ps,cs,td,[]) =
  A82 l R x ((),R.1.CJ,R.1.Room,R.1.A2,R.1.CB,R.1.Bq,R.1.Rest,R.1.CL,R.1.Cs,now,turn,ps,cs,td,x.1.map jb):=by
 refine C6 (n:=x.1.length) (fun i (v:List Int)=>((i:Int),(),R.1.CJ,R.1.Room,R.1.A2,R.1.CB,R.1.Bq,R.1.Rest,R.1.CL,R.1.Cs,now,turn,ps,cs,td,v)) (fun i v=>v=(x.1.take i).map jb)
  (fun _ _=>A82 l R x ((),R.1.CJ,R.1.Room,R.1.A2,R.1.CB,R.1.Bq,R.1.Rest,R.1.CL,R.1.Cs,now,turn,ps,cs,td,x.1.map jb)) (by omega) ?_ (v:=[]) (by simp)
 intro L i v a hi e;unfold BA1;dsimp only;rcases AT i x.1.length with h|h
 .have hlim:lim=268435456:=rfl;have c:v.length<=1048576:=by rw[a,Aj,BS];omega
  simp only[CC h,BH,A7 h,AB,Ns,BU h (by omega:x.1.length<2 ^ 63)];rw[B9 (by rw[Kc];omega)];refine e _ ?_ h;rw[a,CH,AW h,List.map_append];rfl
 grind[BN,AR]
theorem AhN(hr:Dp R.1=true){ps:List AK}{cs:List AY}{k:Nat}{b:Bool}(hk:k<=l.length)(B:ps.length<=1048576)(q:cs.length<=1048576)(j:∀c∈cs,DI c)
 (ha:∀g,Good g l->Hd g R.1 now turn/\g.AG=ps/\g.AI=cs/\l.drop k=tl4 g/\b=false) :
 ∃r,BA0 l R ((),R.1.CJ,R.1.Room,R.1.A2,R.1.CB,R.1.Bq,R.1.Rest,R.1.CL,R.1.Cs,now,turn,ps,cs,[],[],rd l k b)=some r/\Red l r:=by
 have E:=CT hr;have hcrew:=E.2.2.2.2.2.2.2.2.2;unfold BA0;dsimp only;obtain⟨nt,k1,J,O,Q,S,e4,X⟩:=oX (b:=b) hl hk (m:=(R.1.AV.length:Int)) (by omega);obtain⟨n,rfl⟩:=Ab S;obtain⟨td,k2,G,Y,Z,f3,f4⟩:=AFM (b:=J) hl Q (n:=n) (by omega);obtain⟨c,H⟩:=Ab (show 0<=R.1.Cs by omega);obtain⟨js,k3,L,g1,g2,g3,g4⟩:=AFM (b:=G) hl Z (n:=c) (by omega);rw[O,AB];dsimp only;rw[Y,AB];dsimp only;have e:AQv (rd l k2 G) R.1.Cs=some (js,rd l k3 L):=by rw[H];exact g1
 rw[e,AB];rw[AhR hl (by dsimp only;omega)];refine AhO hl (h:=⟨R.1,now,turn,ps,cs,td,js.map jb⟩) rfl ⟨by dsimp only;omega,B,q,j,by dsimp only;omega,by dsimp only;rw[Aj];omega⟩ ?_;intro g I;obtain⟨⟨q1,q2,q3⟩,q4,q5,q6,q7⟩:=ha g I;have a:=RG I.1;obtain⟨u1,u2,u3⟩:=X _ _ q6 (by omega) (by have:=a.todo;rw[q1]at this;omega);obtain⟨v1,v2,v3⟩:=f4 _ _ u2 (by omega);obtain⟨w1,w2,w3⟩:=g4 (g.A8.map up) [] (by rw[v2,List.append_nil]) (by rw[Aj];have:=a.Wm;rw[q1,H]at this;omega);have hj:js.map jb=g.A8:=by
  rw[w1,List.map_map]
  conv=>rhs;rw[<-List.map_id g.A8]
  apply List.map_congr_left;intro y hy;have:=a.job y hy;exact AhD this.1 this.2
 refine⟨?_,by dsimp only[rd];rw[w3,v3,u3,q7]⟩;rw[hj,v1];cases g
 grind
theorem AhQ(X:Dp R.1=true){ps:List AK}{k:Nat}{b:Bool}(hk:k<=l.length)(hps:ps.length<=40)
 (ha:∀g,Good g l->Hd g R.1 now turn/\g.AG=ps/\l.drop k=tl3 g 0/\b=false) :
 ∃r,AwU l R ((),R.1.CJ,R.1.Room,R.1.A2,R.1.CB,R.1.Bq,R.1.Rest,R.1.CL,R.1.Cs,now,turn,ps,[],[],[],rd l k b)=some r/\Red l r:=by
 have O:=CT X;unfold AwU;dsimp only;refine Hl (n:=R.1.AV.length) (fun i (v:List AY×Nat×Bool)=>((i:Int),(),R.1.CJ,R.1.Room,R.1.A2,R.1.CB,R.1.Bq,R.1.Rest,R.1.CL,R.1.Cs,now,turn,ps,v.1,[],[],rd l v.2.1 v.2.2))
  (fun i v=>v.1.length=i/\(∀c∈v.1,DI c)/\v.2.1<=l.length/\∀g,Good g l->Hd g R.1 now turn/\g.AG=ps/\v.1=g.AI.take i/\l.drop v.2.1=tl3 g i/\v.2.2=false)
  (Red l) (by omega) ?_ (v:=([],k,b)) ⟨rfl,by simp,hk,fun g j=>by obtain⟨h1,h2,h3,h4⟩:=ha g j;exact⟨h1,h2,by simp,h3,h4⟩⟩
 rintro L i ⟨cs,q,c⟩ ⟨S,gf,H,I⟩ hi Y;dsimp only at S gf H I Y ⊢;unfold BCg;dsimp only;rcases AT i R.1.AV.length with h|h
 .have hseat:=O.2.2.2.2.2.1 _ (Am h);have hD:R.1.AV.getD i 0=R.1.AV[i]:=by simp[List.getD,h]
  obtain⟨a,q',c',e1,e2,e3,e4,e5⟩:=oX (b:=c) hl H (m:=R.1.AV[i]) (by omega);have J:(GJ ps (i:Int)).length<=1048576:=by
   unfold GJ;rw[IG];have:=B5 (Nu (i:Int)) ps;omega
  have hlim:lim=268435456:=rfl;rw[CC h,BH,A7 h];simp only[AB,e1,Z7 (show ps.length<=1048576 by omega),AGK J,Rj (show ps.length<2 ^ 58 by omega),Rl (show ps.length<2 ^ 58 by omega),Cw,Ja,Jb,Jc,Jd,I9,Je,Jf,PQ (r:=R.1) (show R.1.AV.length<2 ^ 62 by omega) (show ps.length<=1048576 by omega)];rw[B9 (by rw[Kc];omega),BU h (by omega)];have B:AY.mk (A9.mk R.1.AV[i] a (Jk ps i) (w64 (w64 (R.1.AV[i]-a)-Jk ps i)) (KE ps i)) (D3 R.1 ps i now) (NT (GJ ps i)).1=yU R.1 ps now i a:=by unfold yU;rw[hD]
  rw[B];refine Y (cs++[yU R.1 ps now i a],q',c') ⟨by simp[S],?_,e2,fun g j=>?_⟩ h
  .intro x E;rcases List.mem_append.1 E with E|E
   .exact gf x E
   .rw[EP.1 E];refine⟨?_,oC _⟩;unfold yU D3;dsimp only;rw[IG];have:=B5 (ML R.1 (i:Int) now) ps;omega
  .obtain⟨⟨p1,p2,p3⟩,p4,p5,G,Q⟩:=I g j;have e:=RG j.1;have y:i<g.AI.length:=by rw[e.EG,p1];exact h
   obtain⟨w1,w2,Z,w4⟩:=e.cab i y;unfold tl3 at G;rw[DW y,AJ]at G;obtain⟨u1,u2,u3⟩:=e5 _ _ G w2 (by rw[p1,hD]at Z;exact Z);refine⟨⟨p1,p2,p3⟩,p4,?_,u2,u3.trans Q⟩;rw[CH,AW y,p5,u1];rw[p1,p4,p2]at w1
   conv=>rhs;rw[w1]
   rfl
 .obtain rfl:i=R.1.AV.length:=by omega
  rw[Cp,BN,AR];refine AhN hl X H (by omega) (by omega) gf fun g j=>?_
  obtain⟨p1,p4,p5,G,Q⟩:=I g j;have e:=RG j.1;have hn:g.AI.length=R.1.AV.length:=by rw[e.EG,p1.1]
  refine⟨p1,p4,?_,?_,Q⟩
  .rw[p5,BQ (by omega)]
  .rw[G];unfold tl3;rw[BM (by omega)];rfl
theorem AhP(Y:Dp R.1=true){n:Int}{x:Int×Db}(hx:x.1=n)(O:0<=n)(hn:n<=40){k:Nat}{b:Bool}(hk:k<=l.length)
 (ha:∀g,Good g l->Hd g R.1 now turn/\(g.AG.length:Int)=n/\l.drop k=tl2 g 0/\b=false) :
 ∃r,A4 (AwV l R x) big (0,(),R.1.CJ,R.1.Room,R.1.A2,R.1.CB,R.1.Bq,R.1.Rest,R.1.CL,R.1.Cs,now,turn,[],[],[],[],rd l k b)=some r/\Red l r:=by
 have hrl:=CT Y;obtain⟨m,rfl⟩:=Ab O;refine Hl (n:=m) (fun i (v:List AK×Nat×Bool)=>((i:Int),(),R.1.CJ,R.1.Room,R.1.A2,R.1.CB,R.1.Bq,R.1.Rest,R.1.CL,R.1.Cs,now,turn,v.1,[],[],[],rd l v.2.1 v.2.2))
  (fun i v=>v.1.length=i/\v.2.1<=l.length/\∀g,Good g l->Hd g R.1 now turn/\g.AG.length=m/\v.1=g.AG.take i/\l.drop v.2.1=tl2 g i/\v.2.2=false)
  (Red l) (by omega) ?_ (v:=([],k,b)) ⟨rfl,hk,fun g a=>by obtain⟨h1,h2,h3,h4⟩:=ha g a;exact⟨h1,by omega,by simp,h3,h4⟩⟩
 rintro L i ⟨ps,q,c⟩ ⟨X,J,B⟩ hi Z;dsimp only at X J B Z ⊢;unfold AwV;dsimp only;rw[hx];rcases AT i m with h|h
 .obtain⟨p,q',S,e1,e2,e3⟩:=AeN (b:=c) hl J;rw[CC h,BH,e1,AB];dsimp only;rw[PO (by omega),AB,BI];have E:∀g,Good g l->p=g.AG.getD i ⟨0,0,0,0,0,0,0,0,0,0⟩/\i<g.AG.length/\l.drop q'=tl2 g (i+1)/\S=false:=by
   intro g a;obtain⟨p1,p2,p3,p4,p5⟩:=B g a;have j:i<g.AG.length:=by omega
   have G:=FM ((RG a.1).par i j);have hs:=(CT G.1).1;unfold tl2 at p4;rw[DW j,List.flatMap_cons,CR]at p4;obtain⟨H,y,I⟩:=e3 _ _ p4 G.2.2.2.2.1.1 (by omega);refine⟨?_,j,y,I.trans p5⟩;rw[H];simp[List.getD,j]
  cases Q:D9 R.1 p now with
  |true=>
   have hlim:lim=268435456:=rfl;rw[BH,B9 (by rw[Kc];omega),BU h (by omega)];refine Z (ps++[p],q',S) ⟨by simp[X],e2,fun g a=>?_⟩ h;obtain⟨p1,p2,p3,p4,p5⟩:=B g a;obtain⟨H,y,I,u4⟩:=E g a;refine⟨p1,p2,?_,I,u4⟩;rw[CH,AW y,p3,H];simp[List.getD,y]
  |false=>
   rw[BN];refine⟨_,rfl,Red.bad fun g a=>?_⟩;obtain⟨p1,p2,p3,p4,p5⟩:=B g a;obtain⟨H,y,I,u4⟩:=E g a;have:=(RG a.1).par i y;rw[H]at Q;have e:g.AG.getD i ⟨0,0,0,0,0,0,0,0,0,0⟩=g.AG[i]:=by simp[List.getD,y]
   rw[e,<-p1.1,<-p1.2.1,this]at Q;cases Q
 .obtain rfl:i=m:=by omega
  rw[Cp,BN,AR];refine AhQ hl Y J (by omega) fun g a=>?_
  obtain⟨p1,p2,p3,p4,p5⟩:=B g a;refine⟨p1,?_,?_,p5⟩
  .rw[p3,BQ (by omega)]
  .rw[p4];unfold tl2;rw[BM (by omega)];rfl
end spec
theorem AGE{l:List Int}(hl:l.length<=1048576):∃r,AQx l=some r/\Red l r:=by
 unfold AQx;obtain⟨sz,k1,q,I,J,a3,a4,L⟩:=oX (l:=l) (k:=0) (b:=false) hl (Nat.zero_le _) (m:=12) (by omega);obtain⟨s,rfl⟩:=Ab a3;obtain⟨xs,k2,y,S,X,c3,c4⟩:=AFM (b:=q) hl J (n:=s) (by omega);have h:rl (Db.mk l 0 false) 12=some ((s:Int),rd l k1 q):=I;rw[h,AB];dsimp only;rw[S,AB];dsimp only;rw[AGJ (by omega),AB,BI];have e:∀g,Good g l->xs=LO g.AO/\l.drop k2=g.Now::g.Ap::(g.AG.length:Int)::tl2 g 0/\y=false:=by
  intro g c;have hn:=ACQ c;have B:=NF g.AO;have a:=RG c.1;obtain⟨E,G,H⟩:=L _ _ (by rw[C3];exact hn) (by omega) (by have:=a.Dd;omega)
  grind
 cases hR:(ME xs).2 with
 |false=>
  rw[BN];refine⟨_,rfl,Red.bad fun g c=>?_⟩;rw[(e g c).1,PJ (RG c.1).rules]at hR;cases hR
 |true=>
  rw[BH];have j:=(zA hR).1;obtain⟨n1,k3,O,Y,Z,d3⟩:=AFJ (b:=y) hl X;obtain⟨n2,k4,Q,f1,f2,f3⟩:=AFJ (b:=O) hl Z;obtain⟨n3,k5,b5,g1,g2,g3,g4,g5⟩:=oX (b:=Q) hl f2 (m:=40) (by omega);simp only[Y,AB,Cw,Ja,Jb,Jc,Jd,I9,Je,Jf,AGY,f1,g1];refine AhP hl j (now:=n1) (turn:=n2) rfl g3 g4 g2 fun g c=>?_
  obtain⟨q1,q2,q3⟩:=e g c;have a:=RG c.1;obtain⟨E,G,H⟩:=d3 _ _ q2;obtain⟨v1,v2,v3⟩:=f3 _ _ G;obtain⟨w1,w2,w3⟩:=g5 _ _ v2 (by omega) (by have:=a.few;omega);refine⟨⟨?_,E.symm,v1.symm⟩,w1.symm,w2,by rw[w3,v3,H,q3]⟩;rw[q1,PJ a.rules]
end Lv.P
