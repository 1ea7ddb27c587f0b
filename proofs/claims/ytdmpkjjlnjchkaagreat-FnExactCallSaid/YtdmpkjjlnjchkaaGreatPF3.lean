/- Plain laws about what the program computes. -/
import Derived.Test.YtdmpkjjlnjchkaaGreatKD3
import Derived.Test.YtdmpkjjlnjchkaaGreatPE3
noncomputable section
set_option linter.unusedVariables false
set_option linter.unusedSimpArgs false
set_option linter.unusedSectionVars false
open Bool renaming and_eq_true->AF,not_eq_true'->BR
open Int renaming toNat_natCast->Ac
open List renaming ext_getElem->K8,filter_append->J9,filter_cons->Eu,flatten_cons->EZ,getElem_map->K9,getElem_mem->Am,getElem_range->KB,mem_cons->Ag,mem_cons_of_mem->A3,mem_cons_self->Bm,mem_flatten->Ev,mem_iff_getElem->DF,pairwise_cons->Bc,pairwise_singleton->H7,take_sublist->HZ
open Nat renaming le_refl->Af
namespace Lv.P
open Lv Go
def dt(w:An)(p:A6):An:=⟨w.Ak.set (p.At.tmod 9).toNat (put ltP p (w.Ak.getD (p.At.tmod 9).toNat []))⟩
def PU(w:An)(p:A6):An×Bool:=if HE w=true/\V1 p=true/\HE (dt w p)=true then (dt w p,true) else (w,false)
theorem PH{p:A6}(h:V1 p=true):(1<=p.At/\p.At<=1000008)/\1<=p.Id/\p.Id<=999:=by
 grind[V1,CY]
theorem oB{n:Int}(h:1<=n):∃k:Nat,k<9/\n.tmod 9=(k:Int):=by
 obtain⟨m,rfl⟩:=Int.eq_ofNat_of_zero_le (show 0<=n by omega);refine⟨m % 9,Nat.mod_lt _ (by omega),?_⟩;rw[Int.tmod_eq_emod_of_nonneg (by omega)];rfl
theorem w7{α:Type}{l:List (List α)}{k:Nat}(h:k<l.length)(x:List α):(l.set k x).flatten.length+l[k].length=l.flatten.length+x.length:=by
 grind[List.set_eq_take_append_cons_drop,List.take_append_drop,List.drop_eq_getElem_cons]
theorem Aef{α:Type}{l:List (List α)}{k:Nat}(h:k<l.length){x:List α}{a:α}(c:a∈x):a∈(l.set k x).flatten:=by
 rw[Ev];exact⟨x,List.mem_set h _,c⟩
theorem zw{w:An}(g:Rs w){p:A6}(j:1<=p.At):C1 (dt w p)/\p∈(dt w p).Ak.flatten:=by
 obtain⟨k,B,e⟩:=oB j;have q:=g.nine;have y:=g.few;unfold dt;rw[e,Ac];have a:k<w.Ak.length:=by omega
 have h:=w7 a (put ltP p (w.Ak.getD k []));have c:w.Ak.getD k []=w.Ak[k]:=by simp[List.getD,a]
 rw[c,Ff]at h;refine⟨⟨by dsimp only;rw[List.length_set];omega,by dsimp only;rw[c];omega⟩,Aef a (au.2 (.inl rfl))⟩
theorem NR{w:An}(g:C1 w)(p:A6):su w p=some (PU w p):=by
 unfold su A3L;rw[aI g,AB,HU g,AB,BI];by_cases hB:HE w=true
 .have hP:=Du.1 hB;rw[hB,BH,AR,BA];by_cases j:p.At<1
  .rw[if_pos j];unfold PU;rw[if_neg];rintro⟨_,c,_⟩;have:=PH c;omega
  .rw[if_neg j];obtain⟨q,B⟩:=zw hP (p:=p) (by omega);obtain⟨k,H,e⟩:=oB (n:=p.At) (by omega);have G:=hP.nine;have y:=hP.few;have a:k<w.Ak.length:=by omega
   have c:w.Ak.getD k []=w.Ak[k]:=by simp[List.getD,a]
   have E:=I0 a;have h:(An.mk (w.Ak.set k (put ltP p w.Ak[k])))=dt w p:=by unfold dt;rw[e,Ac,c]
   simp only[e,A7 a,AB,dh (l:=w.Ak[k]) (by unfold lim;omega) p,Ac,h,HU q,aI g,BI];unfold PU;cases hB2:HE (dt w p) with
   |false=>rw[BN,if_neg (by simp)]|true=>
    rw[BH,if_pos ⟨hB,(Du.1 hB2).pins p B,rfl⟩]
 grind[BN,AR,BH,PU]
theorem bj{w:An}(E:C1 w)(p:A6):sx w p=some (PU w p):=by
 unfold sx A3M;rw[aH E,AB,Il E,AB,BI];by_cases hB:HE w=true
 .have hP:=Du.1 hB;rw[hB,BH,dP,AB,AR,BI];cases B:V1 p with
  |false=>
   rw[BN];unfold PU;rw[B,if_neg (by simp)]
  |true=>
   have j:=(PH B).1.1;rw[BH];obtain⟨I,hm⟩:=zw hP j;obtain⟨k,Z,e⟩:=oB j;have X:=hP.nine;have J:=hP.few;have a:k<w.Ak.length:=by omega
   have H:w.Ak.getD k []=w.Ak[k]:=by simp[List.getD,a]
   have S:=I0 a;have G:(An.mk (w.Ak.set k (put ltP p w.Ak[k])))=dt w p:=by unfold dt;rw[e,Ac,H]
   have h:∀i:Nat,i<=w.Ak[k].length->∀s:List A6,s=w.Ak[k].take i++p::w.Ak[k].drop i->A3N w p w w.Ak[k] (i:Int)=(bd (WW (An.mk (w.Ak.set k s))) fun x=>br (!x) (some (w,false)) (some (An.mk (w.Ak.set k s),true))):=by
    intro i hi s Q;have g:ARK w.Ak[k] (i:Int) [p]=@some (C.l (.st 5)).D s:=by
     show AAH (.st 5) w.Ak[k] (i:Int) [p]=some s;have q:(0:Int)<=i/\(i:Int).toNat<=w.Ak[k].length/\[p]≠([]:List A6)/\w.Ak[k].length+[p].length<=lim:=⟨by omega,by simpa using hi,by simp,by rw[Kc];unfold lim;omega⟩;unfold AAH;refine(if_pos q).trans ?_;rw[Q,Ac];congr 1;exact List.append_assoc _ _ _
    unfold A3N;have O:Y.Od k 0 [U.sl (C.st 5) s].length [(k,0)]:=⟨rfl,⟨Af _,by simp⟩,trivial⟩;rw[g];refine(AB (α:=List A6) s _).trans ?_;simp only[e,A7 a,AB,Ac,B9 O,aH E]
   simp only[e,A7 a,AB];have hloop:=Zq (lt:=ltP) (F:=A2H w p w w.Ak[k]) (l:=w.Ak[k]) (x:=p) (fun s=>bd (WW (An.mk (w.Ak.set k s))) fun x=>br (!x) (some (w,false)) (some (An.mk (w.Ak.set k s),true))) (by omega) ?_ ?_
   .rw[hloop,G,Il I,AB,BI];unfold PU;cases hB2:HE (dt w p) with|false=>rw[BN,if_neg (by simp)]|true=>rw[BH,if_pos ⟨hB,B,rfl⟩]
   .intro L i hi;unfold A2H A2G;obtain⟨c,q,y,_⟩:=PZ w.Ak[k][i] p;rw[CC hi,BH,A7 hi,AB,q,AB,AR,y,AR,h i (by omega) _ rfl]
   .intro L;unfold A2H A2G;rw[Cp,BN,AR,BN,AR,h _ (Af _) (w.Ak[k]++[p]) (by simp)]
 grind[BN,AR,BH,PU]
def cG:List A6->An->An×Bool| [],w=>(w,true)|p::ps,w=>if (PU w p).2=true then cG ps (PU w p).1 else (⟨[]⟩,false)
def NT(l:List A6):An×Bool:=cG l ⟨List.replicate 9 []⟩
section
variable{α:Type}{lt:α->α->Bool}
theorem Hc(a:α)(l:List α):DX lt (a::l)=put lt a (DX lt l):=rfl
theorem yC(h:Swo lt)(B:∀a b,lt a b=false->lt b a=false->a=b){g j:List α}(q:g.Perm j):DX lt g=DX lt j:=by
 induction q with
 |nil=>rfl|cons x _ E=>rw[Hc,Hc,E]|swap x y l=>rw[Hc,Hc,Hc,Hc,AFt h B]|trans _ _ c e=>exact c.trans e
theorem AMH{a:α}{l:List α}(h:∀b∈l,lt b a=false):put lt a l=a::l:=by
 cases l with
 |nil=>rfl|cons z l=>rw[put,if_neg (by rw[h z (Bm ..)];simp)]
theorem AMI{a:α}:∀{l:List α},(∀b∈l,lt b a=true)->put lt a l=l++[a]
 | [],_=>rfl|z::l,h=>by
  rw[put,if_pos (h z (Bm ..)),AMI fun b c=>h b (A3 _ c)];rfl
theorem ADA(h:Swo lt){a z:α}{l:List α}(y:Srt lt (z::l))(j:lt z a=false):∀b∈z::l,lt b a=false:=by
 intro b g;rcases Ag.1 g with rfl|g
 .exact j
 .have q:=(Bc.1 y).1 b g;cases e:lt b a with
  |false=>rfl|true=>
   rcases h.neg b z a e with c|c
   .rw[q]at c;cases c
   .rw[j]at c;cases c
theorem AT5(h:Swo lt)(a:α):∀{l:List α},Srt lt l->Srt lt (put lt a l)
 | [],_=>H7 _ _|z::l,c=>by
  rw[put];split
  .rename_i g;refine Bc.2 ⟨?_,AT5 h a (Bc.1 c).2⟩;intro b e;rcases au.1 e with rfl|e
   .exact h.ADY _ _ g
   .exact(Bc.1 c).1 b e
  .rename_i g;exact Bc.2 ⟨ADA h c (by simpa using g),c⟩
theorem aX(h:Swo lt):∀l:List α,Srt lt (DX lt l)| []=>List.Pairwise.nil|a::l=>AT5 h a (aX h l)
theorem cV(h:Swo lt)(q:α->Bool)(a:α):∀{l:List α},Srt lt l->(put lt a l).filter q=if q a=true then put lt a (l.filter q) else l.filter q
 | [],_=>by by_cases e:q a=true<;>simp[put,e]|z::l,c=>by
  have j:=cV h q a (Bc.1 c).2;rw[put];split
  .grind[put]
  .rename_i g;have habove:=ADA h c (by simpa using g);rw[Eu]
   grind[AMH]
theorem O9(h:Swo lt)(q:α->Bool):∀l:List α,(DX lt l).filter q=DX lt (l.filter q)
 | []=>rfl|a::l=>by
  rw[Hc,cV h q a (aX h l),O9 h q l,Eu]
  grind[Hc]
theorem UB(h:Swo lt):∀{l:List α},(l.Pairwise fun a b=>lt a b=true)->DX lt l=l
 | [],_=>rfl|a::l,c=>by
  rw[Hc,UB h (Bc.1 c).2,AMH];intro b e;exact h.ADY _ _ ((Bc.1 c).1 b e)
theorem Pr(h:Swo lt):∀{l:List α},(∀k (q:k+1<l.length),lt l[k] l[k+1]=true)->l.Pairwise fun a b=>lt a b=true
 | [],_=>List.Pairwise.nil| [a],_=>H7 _ _|a::b::l,j=>by
  have y:=Pr h (l:=b::l) fun k q=>j (k+1) (by simpa using q)
  have g:lt a b=true:=j 0 (by simp);refine Bc.2 ⟨?_,y⟩;intro c e;rcases Ag.1 e with rfl|e
  .exact g
  .exact h.trans g ((Bc.1 y).1 c e)
end
theorem i5{α β:Type}{f g:β->List α}:∀{l:List β},(∀i∈l,(f i).Sublist (g i))->(l.map f).flatten.Sublist (l.map g).flatten
 | [],_=>List.Sublist.slnil|i::l,h=>by
  simp only[List.map_cons,EZ];exact(h i (Bm ..)).append (i5 fun j a=>h j (A3 _ a))
def GI(i:Nat)(p:A6):Bool:=p.At.tmod 9==(i:Int)
theorem LK{i:Nat}{p:A6}:GI i p=true↔p.At.tmod 9=(i:Int):=by unfold GI;exact beq_iff_eq
theorem dj{w:An}(B:Rs w){i:Nat}(hi:i<w.Ak.length):(w.Ak.flatten).filter (GI i)=w.Ak[i]:=by
 have g:∀j (a:j<w.Ak.length),∀p∈w.Ak[j],p.At.tmod 9=(j:Int):=by
  intro j a p c;obtain⟨k,h,rfl⟩:=DF.1 c;exact B.at_ j a k h
 have e:w.Ak.flatten=(w.Ak.take i).flatten++(w.Ak[i]++(w.Ak.drop (i+1)).flatten):=by
  conv=>lhs;rw[<-List.take_append_drop i w.Ak,List.drop_eq_getElem_cons hi]
  simp only[List.flatten_append,EZ]
 have E:((w.Ak.take i).flatten).filter (GI i)=[]:=by
  grind[List.filter_eq_nil_iff,List.mem_flatten,List.mem_iff_getElem,LK]
 have G:((w.Ak.drop (i+1)).flatten).filter (GI i)=[]:=by
  rw[List.filter_eq_nil_iff];intro p c;obtain⟨s,y,q⟩:=Ev.1 c;obtain⟨j,a,rfl⟩:=DF.1 y
  grind[LK]
 grind[GI,List.filter_eq_self]
def jx(S:List A6)(j:Nat):An:=⟨(List.range 9).map fun i=>(S.take j).filter (GI i)⟩
theorem mn{w:An}(a:Rs w):w=⟨(List.range 9).map fun i=>(DX ltP w.Ak.flatten).filter (GI i)⟩:=by
 have e:=a.nine;cases w with
 |mk sp=>
  congr 1;dsimp only at e a ⊢;apply K8
  .simp[e]
  .intro i c g;rw[K9,KB,O9 FG,dj a c];exact(UB FG (Pr FG (a.srt i c))).symm
theorem Aas{w:An}(e:Rs w)(j:Nat):Rs (jx (DX ltP w.Ak.flatten) j):=by
 have c:(jx (DX ltP w.Ak.flatten) j).Ak.flatten.Sublist w.Ak.flatten:=by
  conv=>rhs;rw[mn e]
  exact i5 fun i _=>(HZ _ _).filter _
 have E:∀i (h:i<(jx (DX ltP w.Ak.flatten) j).Ak.length),(jx (DX ltP w.Ak.flatten) j).Ak[i]=((DX ltP w.Ak.flatten).take j).filter (GI i):=by
  intro i h;simp only[jx,K9,KB]
 have q:∀i,i<9->(((DX ltP w.Ak.flatten).take j).filter (GI i)).Pairwise fun a b=>ltP a b=true:=by
  intro i hi;have g:i<w.Ak.length:=by rw[e.nine];exact hi
  have y:((DX ltP w.Ak.flatten).filter (GI i))=w.Ak[i]:=by
   rw[O9 FG,dj e g];exact UB FG (Pr FG (e.srt i g))
  refine List.Pairwise.sublist ((HZ _ _).filter _) ?_;rw[y];exact Pr FG (e.srt i g)
 refine⟨by simp[jx],Nat.le_trans c.length_le e.few,fun p B=>e.pins p (c.subset B),e.ids.sublist c,?_,?_⟩
 .grind[ltP,LK]
 grind[jx,List.pairwise_iff_getElem]
theorem Ac2{w:An}(h:Rs w){j:Nat}(L:j<(DX ltP w.Ak.flatten).length):dt (jx (DX ltP w.Ak.flatten) j) (DX ltP w.Ak.flatten)[j]=jx (DX ltP w.Ak.flatten) (j+1):=by
 have I:(DX ltP w.Ak.flatten)[j]∈w.Ak.flatten:=UC.1 (Am L);obtain⟨k,O,e⟩:=oB (PH (h.pins _ I)).1.1;have Q:(DX ltP w.Ak.flatten).Pairwise fun a b=>ltP b a=false:=aX FG _
 have J:(DX ltP w.Ak.flatten).take (j+1)=(DX ltP w.Ak.flatten).take j++[(DX ltP w.Ak.flatten)[j]]:=by rw[List.take_add_one,List.getElem?_eq_getElem L];rfl
 generalize hS:DX ltP w.Ak.flatten=S at *;have g:∀(q:A6->Bool),q S[j]=true->(∀b∈(S.take j).filter q,ltP b S[j]=true)->put ltP S[j] ((S.take j).filter q)=(S.take (j+1)).filter q:=by
  intro q Z c;rw[AMI c,J,J9];simp[Z]
 have H:∀b∈(S.take j).filter (GI k),ltP b S[j]=true:=by
  intro b Y;have E:k<w.Ak.length:=by rw[h.nine];exact O
  have y:S.filter (GI k)=w.Ak[k]:=by
   rw[<-hS,O9 FG,dj h E];exact UB FG (Pr FG (h.srt k E))
  have B:((S.take (j+1)).filter (GI k)).Pairwise fun a b=>ltP a b=true:=by
   refine List.Pairwise.sublist ((HZ _ _).filter _) ?_;rw[y];exact Pr FG (h.srt k E)
  rw[J,J9]at B;have X:([S[j]]:List A6).filter (GI k)=[S[j]]:=by simp[LK.2 e]
  rw[X]at B;exact(List.pairwise_append.1 B).2.2 b Y _ (List.mem_singleton.2 rfl)
 unfold dt jx;rw[e,Ac];congr 1;apply K8
 .simp
 .intro i h1 y;have hi:i<9:=by simpa using y
  rw[List.getElem_set];have hD:(((List.range 9).map fun i=>(S.take j).filter (GI i)).getD k [])=(S.take j).filter (GI k):=by simp[List.getD,O]
  split
  .rename_i G;subst G;rw[hD,g _ (LK.2 e) H];simp
  .grind[LK]
theorem AAS{w:An}(c:Rs w):NT (DX ltP w.Ak.flatten)=(w,true):=by
 have key:∀m j,j+m=(DX ltP w.Ak.flatten).length->cG ((DX ltP w.Ak.flatten).drop j) (jx (DX ltP w.Ak.flatten) j)=(w,true):=by
  intro m
  induction m with
  |zero=>
   grind[cG,jx,mn]
  |succ m g=>
   intro j h;have a:j<(DX ltP w.Ak.flatten).length:=by omega
   have e:PU (jx (DX ltP w.Ak.flatten) j) (DX ltP w.Ak.flatten)[j]=(jx (DX ltP w.Ak.flatten) (j+1),true):=by
    unfold PU;rw[Ac2 c a,if_pos];exact⟨Du.2 (Aas c j),c.pins _ (UC.1 (Am a)),Du.2 (Aas c (j+1))⟩
   rw[DW a,cG,e,if_pos rfl];exact g (j+1) (by omega)
 have:=key (DX ltP w.Ak.flatten).length 0 (by omega);rw[List.drop_zero]at this;exact this
def Good(h:AD)(l:List Int):Prop:=DR h=true/\Bp h/\GH h=l
def AGb:AZ:=⟨[],0,0,0,0,0,0,0,0⟩
def MI:AD:=⟨AGb,0,0,[],[],[],[]⟩
def Red(l:List Int)(r:AD×Bool):Prop:=(r.2=true->Good r.1 l/\∀h,Good h l->h=r.1)/\(r.2=false->r.1=MI/\∀h,¬Good h l)
theorem Red.one{l:List Int}{r a:AD×Bool}(h:Red l r)(q:Red l a):r=a:=by
 obtain⟨g,b⟩:=r;obtain⟨g',j⟩:=a;obtain⟨y,c⟩:=h;obtain⟨B,e⟩:=q;dsimp only at y c B e;cases b<;>cases j
 .rw[(c rfl).1,(e rfl).1]
 .grind
 .grind
 grind
theorem Red.bad{l:List Int}(h:∀h,¬Good h l):Red l (MI,false):=⟨fun h=>(by cases h),fun _=>⟨rfl,h⟩⟩
def fr(c:AY):Int:=c.AV.DT
def up(x:Int):Int:=w64 (x+1)
def yU(r:AZ)(ps:List AK)(now:Int)(i:Nat)(free:Int):AY:=
 ⟨⟨r.AV.getD i 0,free,Jk ps i,w64 (w64 (r.AV.getD i 0-free)-Jk ps i),KE ps i⟩,D3 r ps i now,(NT (GJ ps i)).1⟩
theorem Acs{t:List Int}{n:Nat}(H:n<=4)(h:Jw t n=true):t.length<=n:=by
 by_cases c:t.length<=n
 .exact c
 .exfalso;have a:∀k (B:k<t.length),0<=t[k]/\t[k]<n/\∀j (G:j<k),t[j]≠t[k]:=by
   intro k B;have y:=KD.1 h k B;unfold WH at y;rw[Cc B,AF,CY,Ai (by omega) (by omega)]at y;refine⟨y.1.1,by omega,fun j G e=>?_⟩;have E:=y.2;simp only[BR,List.any_eq_false,beq_iff_eq]at E;refine E t[j] ?_ e;rw[DF];exact⟨j,by rw[List.length_take];omega,by rw[List.getElem_take]⟩
  have I:=a 0 (by omega)
  match n,H,c,a with
  |0,_,c,a=>have:=a 0 (by omega);omega|1,_,c,a=>
   have a0:=a 0 (by omega);have g:=a 1 (by omega);have:=g.2.2 0 (by omega);omega
  |2,_,c,a=>
   have a0:=a 0 (by omega);have g:=a 1 (by omega);have q:=a 2 (by omega);have:=g.2.2 0 (by omega);have:=q.2.2 0 (by omega);have:=q.2.2 1 (by omega);omega
  |3,_,c,a=>
   have a0:=a 0 (by omega);have g:=a 1 (by omega);have q:=a 2 (by omega);have a3:=a 3 (by omega);have:=g.2.2 0 (by omega);have:=q.2.2 0 (by omega);have:=q.2.2 1 (by omega);have:=a3.2.2 0 (by omega);have:=a3.2.2 1 (by omega);have:=a3.2.2 2 (by omega);omega
  |4,_,c,a=>
   have a0:=a 0 (by omega);have g:=a 1 (by omega);have q:=a 2 (by omega);have a3:=a 3 (by omega);have a4:=a 4 (by omega)
   grind
structure AiP(h:AD):Prop where
 rules:Dp h.AO=true
 Dd:1<=h.AO.AV.length/\h.AO.AV.length<=4
 AiQ:1<=h.AO.Cs/\h.AO.Cs<=3
 few:h.AG.length<=40
 par:∀i (hi:i<h.AG.length),D9 h.AO h.AG[i] h.Now=true
 EG:h.AI.length=h.AO.AV.length
 cab:∀i (hi:i<h.AI.length),h.AI[i]=yU h.AO h.AG h.Now i (fr h.AI[i])/\0<=fr h.AI[i]/\fr h.AI[i]<=h.AO.AV.getD i 0/\DQ h.AG i<=10
 todo:h.BC.length<=h.AO.AV.length
 Wm:(h.A8.length:Int)=h.AO.Cs
 job:∀x∈h.A8,-1<=x/\x<4
theorem AFq{w:An}(a:HE w=true):(NT (Eo w)).1=w:=by
 unfold Eo;rw[if_pos a,AAS (Du.1 a)]
theorem RG{h:AD}(O:DR h=true):AiP h:=by
 obtain⟨q,h2,h3,E,G,H,I,J,L,g⟩:=J0 O;have j:=CT q;have hcrew:1<=h.AO.Cs/\h.AO.Cs<=3:=j.2.2.2.2.2.2.2.2.2;refine⟨q,j.1,hcrew,E,?_,G,?_,?_,L,?_⟩
 .intro i hi;have:=KD.1 H i hi;unfold nj at this;rw[Cc hi,AF]at this;exact this.1
 .intro i hi;have y:i<h.AO.AV.length:=by omega
  have a:=KD.1 g i hi;unfold eJ at a;rw[Cc hi,Cc y]at a;unfold Ki Mg Eh at a;simp only[AF,beq_iff_eq,CY,BR,decide_eq_false_iff_not,IK ou,IK oz]at a;obtain⟨S,⟨⟨⟨l1,l2,l3,l4,l5,l6⟩,k3,X⟩,Y,Z,k7,k8⟩,k9⟩:=a;have hD:h.AO.AV.getD i 0=h.AO.AV[i]:=by simp[List.getD,y]
  have hroom:=j.2.2.1;have B:=AFq X;rw[Z]at B;unfold yU fr;rw[hD,<-Y,<-k7,<-k8,<-S,B];generalize h.AI[i]=c at *;obtain⟨⟨t,f,e,s,td⟩,row,wh⟩:=c;dsimp only at *;have e1:w64 (f+e)=f+e:=Ai (by omega) (by omega);have e2:w64 (f+e+s)=f+e+s:=Ai (by omega) (by omega)
  grind[Ai]
 .have:=Acs (by omega) I;omega
 .intro x Q;have:=List.all_eq_true.1 J x Q;rw[CY,Ai (by omega) (by omega)]at this;omega
def rd(l:List Int)(k:Nat)(b:Bool):Db:=⟨l,(k:Int),b⟩
section spec
variable{l:List Int}(hl:l.length<=1048576){R:AZ×Bool}{now nt:Int}
include hl
end spec
end Lv.P
