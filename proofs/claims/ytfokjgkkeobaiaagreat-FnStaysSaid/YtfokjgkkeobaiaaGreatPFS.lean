/- Plain laws about what the program computes. -/
import Derived.Test.YtfokjgkkeobaiaaGreatKDS
import Derived.Test.YtfokjgkkeobaiaaGreatPAS
set_option linter.all false
noncomputable section
open Bool renaming and_eq_true->AF,and_false->Dq,not_eq_true'->A8,true_eq_false->Dd
open Int renaming eq_ofNat_of_zero_le->Ai,toNat_natCast->Ag,zero_add->GU
open List renaming all_eq_true->CG,any_cons->Mf,any_eq_false->KH,append_assoc->BR,append_nil->CX,cons_append->Bm,drop_eq_nil_of_le->As,drop_length->Cq,drop_zero->Cu,eraseP_cons_of_neg->H5,eraseP_cons_of_pos->H6,eraseP_sublist->JO,ext_getElem->H7,filterMap_cons->JP,filter_append->Jt,filter_cons->GC,flatMap_cons->CS,flatten_append->G5,flatten_cons->Fx,foldl_cons->Bw,getD_eq_getElem?_getD->BC,getElem?_eq_getElem->AR,getElem_map->Ko,getElem_mem->Ak,getElem_range->Jv,length_append->AH,length_cons->AI,length_drop->BI,length_filterMap_le->CZ,length_map->Ac,length_nil->AM,length_set->BP,length_take->Aj,map_congr_left->JR,map_cons->AK,map_eq_flatMap->JS,map_id->OI,map_map->DP,mem_append->Bs,mem_cons->Ae,mem_cons_of_mem->Af,mem_cons_self->BK,mem_flatten->E9,mem_iff_getElem->C4,mem_or_eq_of_mem_set->Df,mem_singleton->D5,nil_append->Be,pairwise_cons->Bn,pairwise_filterMap->Ee,pairwise_iff_getElem->Cj,pairwise_singleton->H9,perm_middle->Kr,set_eq_take_append_cons_drop->Fg,singleton_append->Il,take_add_one->CT,take_append_drop->Cb,take_of_length_le->BE,take_sublist->Hg
open List.cons renaming injEq->CE
open Nat renaming add_assoc->CV,le_refl->Ab,le_succ->DT,le_trans->Av,lt_or_ge->Aa,zero_le->EA
open Option renaming getD_some->DH
namespace Lv.P
open Lv Go
variable{e:A2}{w:A3}{g h:AE}{p:AU}{r:AY}{c:Ah}{q:Bq}{id j now sz tr turn x:Int}{a b ps qs rest:List AU}{S T:List Bf}{l t:List Int}{s:List UInt8}{f i k m n:Nat}{α:Type}
def ZC(w:A3)(p:Bf):A3:=⟨w.Aw.set (p.At.tmod 9).toNat (put ltP p (w.Aw.getD (p.At.tmod 9).toNat []))⟩
def RB(w:A3)(p:Bf):A3×Bool:=if HO w=true/\R4 p=true/\HO (ZC w p)=true then (ZC w p,true) else (w,false)
theorem Nq{p:Bf}(h:R4 p=true):(1<=p.At/\p.At<=1000008)/\1<=p.Id/\p.Id<=999:=by
 grind[R4,B9]
def dH{n:Int}(h:1<=n):∃k:Nat,k<9/\n.tmod 9=(k:Int):=by
 obtain⟨m,rfl⟩:=Ai (show 0<=n by omega);refine⟨m % 9,Nat.mod_lt _ (by omega),?_⟩;rw[Int.tmod_eq_emod_of_nonneg (by omega)];rfl
theorem ADU{l:List (List α)}(h:k<l.length)(x:List α):(l.set k x).flatten.length+l[k].length=l.flatten.length+x.length:=by
 grind[List.set_eq_take_append_cons_drop,List.take_append_drop,List.drop_eq_getElem_cons]
def AX1{l:List (List α)}(h:k<l.length){x:List α}{a:α}(c:a∈x):a∈(l.set k x).flatten:=by
 rw[E9];exact⟨x,List.mem_set h _,c⟩
theorem oh(g:Ph w){p:Bf}(q:1<=p.At):Dc (ZC w p)/\p∈(ZC w p).Aw.flatten:=by
 have ⟨k,E,e⟩:=dH q;have y:=g.nine;have B:=g.few;unfold ZC;rw[e,Ag];have a:k<w.Aw.length:=by omega
 have j:=ADU a (put ltP p (w.Aw.getD k []));have c:w.Aw.getD k []=w.Aw[k]:=by simp[List.getD,a]
 rw[c,GI]at j;refine⟨⟨by dsimp only;rw[BP];omega,by dsimp only;rw[c];omega⟩,AX1 a (Uq.2 (.inl rfl))⟩
theorem VU(g:Dc w)(p:Bf):ik w p=some (RB w p):=by
 unfold ik il;rw[UO g,AB,He g,AB,BG];by_cases hB:HO w=true
 .have hP:=EU.1 hB;rw[hB,BQ,AV,BX];by_cases q:p.At<1
  .rw[AW q];unfold RB;rw[AT];rintro⟨_,c,_⟩;have:=Nq c;omega
  .rw[AT q];have ⟨y,E⟩:=oh hP (p:=p) (by omega);have ⟨k,I,e⟩:=dH (n:=p.At) (by omega);have H:=hP.nine;have B:=hP.few;have a:k<w.Aw.length:=by omega
   have c:w.Aw.getD k []=w.Aw[k]:=by simp[List.getD,a]
   have G:=MW a;have j:(A3.mk (w.Aw.set k (put ltP p w.Aw[k])))=ZC w p:=by unfold ZC;rw[e,Ag,c]
   simp only[e,BM a,AB,WH (l:=w.Aw[k]) (by unfold lim;omega) p,Ag,j,He y,UO g,BG];unfold RB;cases hB2:HO (ZC w p) with
   |false=>rw[BW,AT (by simp)]|true=>
    rw[BQ,AW ⟨hB,(EU.1 hB2).pins p E,rfl⟩]
 grind[BW,AV,BQ,RB]
theorem VI(G:Dc w)(p:Bf):ABa w p=some (RB w p):=by
 unfold ABa iE;rw[UN G,AB,Ic G,AB,BG];by_cases hB:HO w=true
 .have hP:=EU.1 hB;rw[hB,BQ,Vz,AB,AV,BG];cases E:R4 p with
  |false=>
   rw[BW];unfold RB;rw[E,AT (by simp)]
  |true=>
   have q:=(Nq E).1.1;rw[BQ];have ⟨J,hm⟩:=oh hP q;have ⟨k,hk,e⟩:=dH q;have Z:=hP.nine;have O:=hP.few;have a:k<w.Aw.length:=by omega
   have I:w.Aw.getD k []=w.Aw[k]:=by simp[List.getD,a]
   have X:=MW a;have H:(A3.mk (w.Aw.set k (put ltP p w.Aw[k])))=ZC w p:=by unfold ZC;rw[e,Ag,I]
   have j:∀i:Nat,i<=w.Aw[k].length->∀s:List Bf,s=w.Aw[k].take i++p::w.Aw[k].drop i->iF w p w w.Aw[k] (i:Int)=(bd (SV (A3.mk (w.Aw.set k s))) λx=>br (!x) (some (w,false)) (some (A3.mk (w.Aw.set k s),true))):=by
    intro i hi s S;have g:AYM w.Aw[k] (i:Int) [p]=@some (C.l (.st 5)).D s:=by
     show pD (.st 5) w.Aw[k] (i:Int) [p]=some s;have y:(0:Int)<=i/\(i:Int).toNat<=w.Aw[k].length/\[p]≠([]:List Bf)/\w.Aw[k].length+[p].length<=lim:=⟨by omega,by simpa using hi,by simp,by rw[Nn];unfold lim;omega⟩;unfold pD;refine(AW y).trans ?_;rw[S,Ag];congr 1;exact BR _ _ _
    unfold iF;have Q:Y.Pr k 0 [U.sl (C.st 5) s].length [(k,0)]:=⟨rfl,⟨Ab _,by simp⟩,trivial⟩;rw[g];refine(AB (α:=List Bf) s _).trans ?_;simp only[e,BM a,AB,Ag,CD Q,UN G]
   simp only[e,BM a,AB];have hloop:=Tz (lt:=ltP) (F:=XA w p w w.Aw[k]) (l:=w.Aw[k]) (x:=p) (λs=>bd (SV (A3.mk (w.Aw.set k s))) λx=>br (!x) (some (w,false)) (some (A3.mk (w.Aw.set k s),true))) (by omega) ?_ ?_
   .rw[hloop,H,Ic J,AB,BG];unfold RB;cases hB2:HO (ZC w p) with|false=>rw[BW,AT (by simp)]|true=>rw[BQ,AW ⟨hB,E,rfl⟩]
   .intro L i hi;unfold XA W9;have ⟨c,y,B,_⟩:=N8 w.Aw[k][i] p;rw[CF hi,BQ,BM hi,AB,y,AB,AV,B,AV,j i (by omega) _ rfl]
   .intro L;unfold XA W9;rw[C2,BW,AV,BW,AV,j _ (Ab _) (w.Aw[k]++[p]) (by simp)]
 grind[BW,AV,BQ,RB]
theorem AFE(a:Dc w)(p:Bf):Dc (RB w p).1:=by
 grind[RB,oh,EU,Nq]
def VZ:List Bf->A3->A3×Bool| [],w=>(w,true)|p::ps,w=>if (RB w p).2=true then VZ ps (RB w p).1 else (⟨[]⟩,false)
def Mc(l:List Bf):A3×Bool:=VZ l ⟨List.replicate 9 []⟩
def oZ:Dc ⟨List.replicate 9 []⟩:=by constructor<;>simp
theorem tf{l:List Bf}{F:(Int×A3->AA (A3×Bool))->Int×A3->AA (A3×Bool)}(hl:l.length<2 ^ 62)
 (step:∀L (i:Nat) (h:i<l.length) w,Dc w->F L ((i:Int),w)=br (!(RB w l[i]).2) (some (⟨[]⟩,false)) (L (w64 ((i:Int)+1),(RB w l[i]).1)))
 (stop:∀L w,F L ((l.length:Int),w)=some (w,true)):A9 F big (0,⟨List.replicate 9 []⟩)=some (Mc l):=by
 refine(DK (n:=l.length) (λi (w:A3)=>((i:Int),w)) (λ_ w=>Dc w) (λi w=>some (VZ (l.drop i) w)) (by omega) ?_ (v:=⟨List.replicate 9 []⟩) oZ).trans (by simp[Mc]);intro L i w a hi c;rcases Aa i l.length with h|h
 .rw[step L i h w a,Bv h,Dt h,VZ,BG];cases e:(RB w l[i]).2 with|true=>rw[BQ,c _ (AFE a _) h];rfl|false=>rfl
 grind[VZ]
theorem zD{l:List Bf}(hl:l.length<=1048576):AJM l=some (Mc l):=by
 unfold AJM;rw[mr,AB];refine tf (by omega) ?_ ?_
 .intro L i h w a;unfold jB
  grind[BQ,BM,AB,VU,Co]
 grind[jB,AB4,BW,AV]
theorem xg{l:List Bf}(hl:l.length<=1048576):AI5 l=some (Mc l):=by
 unfold AI5;rw[mq,AB]
 grind[tf,ABc,BQ,BM,AB,VI,ABb,BW,AV]
def th:∀(l:List Bf) {w:A3},Dc w->Dc (VZ l w).1
 | [],w,a=>a|p::ps,w,a=>by
  unfold VZ;split
  .exact th ps (AFE a p)
  .constructor<;>simp
def dI(l:List Bf):Dc (Mc l).1:=th l oZ
section
variable{α:Type}{lt:α->α->Bool}
theorem Hi(a:α)(l:List α):Dg lt (a::l)=put lt a (Dg lt l):=rfl
def mS(h:Swo lt)(B:∀a b,lt a b=false->lt b a=false->a=b){g j:List α}(q:g.Perm j):Dg lt g=Dg lt j:=by
 induction q with
 |nil=>rfl|cons x _ E=>rw[Hi,Hi,E]|swap x y l=>rw[Hi,Hi,Hi,Hi,yf h B]|trans _ _ c e=>exact c.trans e
theorem AEK{a:α}{l:List α}(h:∀b∈l,lt b a=false):put lt a l=a::l:=by
 cases l with
 |nil=>rfl|cons z l=>rw[put,AT (by rw[h z (BK ..)];simp)]
def AEL{a:α}:∀{l:List α},(∀b∈l,lt b a=true)->put lt a l=l++[a]
 | [],_=>rfl|z::l,h=>by
  rw[put,AW (h z (BK ..)),AEL λb c=>h b (Af _ c)];rfl
def tO(h:Swo lt){a z:α}{l:List α}(y:Srt lt (z::l))(j:lt z a=false):∀b∈z::l,lt b a=false:=by
 intro b g;rcases Ae.1 g with rfl|g
 .exact j
 .have q:=(Bn.1 y).1 b g;cases e:lt b a with
  |false=>rfl|true=>
   rcases h.neg b z a e with c|c
   .rw[q]at c;cases c
   .rw[j]at c;cases c
def ALW(h:Swo lt)(a:α):∀{l:List α},Srt lt l->Srt lt (put lt a l)
 | [],_=>H9 _ _|z::l,c=>by
  rw[put];split
  .rename_i g;refine Bn.2 ⟨?_,ALW h a (Bn.1 c).2⟩;intro b e;rcases Uq.1 e with rfl|e
   .exact h.uB _ _ g
   .exact(Bn.1 c).1 b e
  .rename_i g;exact Bn.2 ⟨tO h c (by simpa using g),c⟩
def Uf(h:Swo lt):∀l:List α,Srt lt (Dg lt l)| []=>List.Pairwise.nil|a::l=>ALW h a (Uf h l)
theorem Vm(h:Swo lt)(q:α->Bool)(a:α):∀{l:List α},Srt lt l->(put lt a l).filter q=if q a=true then put lt a (l.filter q) else l.filter q
 | [],_=>by by_cases e:q a=true<;>simp[put,e]|z::l,c=>by
  have j:=Vm h q a (Bn.1 c).2;rw[put];split
  .grind[put]
  .rename_i g;have habove:=tO h c (by simpa using g);rw[GC]
   grind[AEK]
theorem Ng(h:Swo lt)(q:α->Bool):∀l:List α,(Dg lt l).filter q=Dg lt (l.filter q)
 | []=>rfl|a::l=>by
  rw[Hi,Vm h q a (Uf h l),Ng h q l,GC]
  grind[Hi]
def Qg(h:Swo lt):∀{l:List α},(l.Pairwise λa b=>lt a b=true)->Dg lt l=l
 | [],_=>rfl|a::l,c=>by
  rw[Hi,Qg h (Bn.1 c).2,AEK];intro b e;exact h.uB _ _ ((Bn.1 c).1 b e)
theorem ON(h:Swo lt):∀{l:List α},(∀k (q:k+1<l.length),lt l[k] l[k+1]=true)->l.Pairwise λa b=>lt a b=true
 | [],_=>List.Pairwise.nil| [a],_=>H9 _ _|a::b::l,j=>by
  have y:=ON h (l:=b::l) λk q=>j (k+1) (by simpa using q)
  have g:lt a b=true:=j 0 (by simp);refine Bn.2 ⟨?_,y⟩;intro c e;rcases Ae.1 e with rfl|e
  .exact g
  .exact h.trans g ((Bn.1 y).1 c e)
end
def YS{α β:Type}{f g:β->List α}:∀{l:List β},(∀i∈l,(f i).Sublist (g i))->(l.map f).flatten.Sublist (l.map g).flatten
 | [],_=>List.Sublist.slnil|i::l,h=>by
  simp only[AK,Fx];exact(h i (BK ..)).append (YS λj a=>h j (Af _ a))
def Ga(i:Nat)(p:Bf):Bool:=p.At.tmod 9==(i:Int)
theorem Kx{p:Bf}:Ga i p=true↔p.At.tmod 9=(i:Int):=by unfold Ga;exact beq_iff_eq
theorem WJ(E:Ph w)(hi:i<w.Aw.length):(w.Aw.flatten).filter (Ga i)=w.Aw[i]:=by
 have g:∀j (a:j<w.Aw.length),∀p∈w.Aw[j],p.At.tmod 9=(j:Int):=by
  intro j a p c;obtain⟨k,q,rfl⟩:=C4.1 c;exact E.at_ j a k q
 have e:w.Aw.flatten=(w.Aw.take i).flatten++(w.Aw[i]++(w.Aw.drop (i+1)).flatten):=by
  conv=>lhs;rw[<-Cb i w.Aw,List.drop_eq_getElem_cons hi]
  simp only[G5,Fx]
 have G:((w.Aw.take i).flatten).filter (Ga i)=[]:=by
  grind[List.filter_eq_nil_iff,List.mem_flatten,List.mem_iff_getElem,Kx]
 have H:((w.Aw.drop (i+1)).flatten).filter (Ga i)=[]:=by
  rw[List.filter_eq_nil_iff];intro p c;have ⟨s,B,y⟩:=E9.1 c;obtain⟨j,a,rfl⟩:=C4.1 B
  grind[Kx]
 grind[Ga,List.filter_eq_self]
def ZA(S:List Bf)(j:Nat):A3:=⟨(List.range 9).map λi=>(S.take j).filter (Ga i)⟩
theorem bF{w:A3}(a:Ph w):w=⟨(List.range 9).map λi=>(Dg ltP w.Aw.flatten).filter (Ga i)⟩:=by
 have e:=a.nine;cases w with
 |mk sp=>
  congr 1;dsimp only at e a ⊢;apply H7
  .simp[e]
  .intro i c g;rw[Ko,Jv,Ng FV,WJ a c];exact(Qg FV (ON FV (a.srt i c))).symm
theorem AUR(e:Ph w)(j:Nat):Ph (ZA (Dg ltP w.Aw.flatten) j):=by
 have c:(ZA (Dg ltP w.Aw.flatten) j).Aw.flatten.Sublist w.Aw.flatten:=by
  conv=>rhs;rw[bF e]
  exact YS λi _=>(Hg _ _).filter _
 have E:∀i (h:i<(ZA (Dg ltP w.Aw.flatten) j).Aw.length),(ZA (Dg ltP w.Aw.flatten) j).Aw[i]=((Dg ltP w.Aw.flatten).take j).filter (Ga i):=by
  intro i h;simp only[ZA,Ko,Jv]
 have q:∀i,i<9->(((Dg ltP w.Aw.flatten).take j).filter (Ga i)).Pairwise λa b=>ltP a b=true:=by
  intro i hi;have g:i<w.Aw.length:=by rw[e.nine];exact hi
  have y:((Dg ltP w.Aw.flatten).filter (Ga i))=w.Aw[i]:=by
   rw[Ng FV,WJ e g];exact Qg FV (ON FV (e.srt i g))
  refine List.Pairwise.sublist ((Hg _ _).filter _) ?_;rw[y];exact ON FV (e.srt i g)
 refine⟨by simp[ZA],Av c.length_le e.few,λp B=>e.pins p (c.subset B),e.ids.sublist c,?_,?_⟩
 .grind[ltP,Kx]
 grind[ZA,List.pairwise_iff_getElem]
theorem AWS(y:Ph w){j:Nat}(O:j<(Dg ltP w.Aw.flatten).length):ZC (ZA (Dg ltP w.Aw.flatten) j) (Dg ltP w.Aw.flatten)[j]=ZA (Dg ltP w.Aw.flatten) (j+1):=by
 have J:(Dg ltP w.Aw.flatten)[j]∈w.Aw.flatten:=Qh.1 (Ak O);have ⟨k,Q,e⟩:=dH (Nq (y.pins _ J)).1.1;have X:(Dg ltP w.Aw.flatten).Pairwise λa b=>ltP b a=false:=Uf FV _
 have L:(Dg ltP w.Aw.flatten).take (j+1)=(Dg ltP w.Aw.flatten).take j++[(Dg ltP w.Aw.flatten)[j]]:=by rw[CT,AR O];rfl
 generalize hS:Dg ltP w.Aw.flatten=S at *;have g:∀(q:Bf->Bool),q S[j]=true->(∀b∈(S.take j).filter q,ltP b S[j]=true)->put ltP S[j] ((S.take j).filter q)=(S.take (j+1)).filter q:=by
  intro q hq c;rw[AEL c,L,Jt];simp[hq]
 have I:∀b∈(S.take j).filter (Ga k),ltP b S[j]=true:=by
  intro b Z;have G:k<w.Aw.length:=by rw[y.nine];exact Q
  have B:S.filter (Ga k)=w.Aw[k]:=by
   rw[<-hS,Ng FV,WJ y G];exact Qg FV (ON FV (y.srt k G))
  have E:((S.take (j+1)).filter (Ga k)).Pairwise λa b=>ltP a b=true:=by
   refine List.Pairwise.sublist ((Hg _ _).filter _) ?_;rw[B];exact ON FV (y.srt k G)
  rw[L,Jt]at E;have Y:([S[j]]:List Bf).filter (Ga k)=[S[j]]:=by simp[Kx.2 e]
  rw[Y]at E;exact(List.pairwise_append.1 E).2.2 b Z _ (D5.2 rfl)
 unfold ZC ZA;rw[e,Ag];congr 1;apply H7
 .simp
 .intro i h1 B;have hi:i<9:=by simpa using B
  rw[List.getElem_set];have hD:(((List.range 9).map λi=>(S.take j).filter (Ga i)).getD k [])=(S.take j).filter (Ga k):=by simp[List.getD,Q]
  split
  .rename_i H;subst H;rw[hD,g _ (Kx.2 e) I];simp
  .grind[Kx]
theorem pQ(c:Ph w):Mc (Dg ltP w.Aw.flatten)=(w,true):=by
 have key:∀m j,j+m=(Dg ltP w.Aw.flatten).length->VZ ((Dg ltP w.Aw.flatten).drop j) (ZA (Dg ltP w.Aw.flatten) j)=(w,true):=by
  intro m
  induction m with
  |zero=>
   grind[VZ,ZA,bF]
  |succ m g=>
   intro j q;have a:j<(Dg ltP w.Aw.flatten).length:=by omega
   have e:RB (ZA (Dg ltP w.Aw.flatten) j) (Dg ltP w.Aw.flatten)[j]=(ZA (Dg ltP w.Aw.flatten) (j+1),true):=by
    unfold RB;rw[AWS c a,AW];exact⟨EU.2 (AUR c j),c.pins _ (Qh.1 (Ak a)),EU.2 (AUR c (j+1))⟩
   rw[Dt a,VZ,e,AW rfl];exact g (j+1) (by omega)
 have:=key (Dg ltP w.Aw.flatten).length 0 (by omega);rw[Cu]at this;exact this
def Good(h:AE)(l:List Int):Prop:=DC h=true/\Bt h/\Fi h=l
def za:AY:=⟨[],0,0,0,0,0,0,0,0⟩
def I4:AE:=⟨za,0,0,[],[],[],[]⟩
def Red(l:List Int)(r:AE×Bool):Prop:=(r.2=true->Good r.1 l/\∀h,Good h l->h=r.1)/\(r.2=false->r.1=I4/\∀h,¬Good h l)
theorem Red.one{r r':AE×Bool}(h:Red l r)(j:Red l r'):r=r':=by
 have ⟨g,b⟩:=r;have ⟨g',e⟩:=r';have ⟨q,a⟩:=h;have ⟨y,c⟩:=j;dsimp only at q a y c;cases b<;>cases e
 .rw[(a rfl).1,(c rfl).1]
 .grind
 .grind
 grind
def Red.bad(h:∀h,¬Good h l):Red l (I4,false):=⟨λh=>(by cases h),λ_=>⟨rfl,h⟩⟩
def fr(c:Ah):Int:=c.AX.D7
def up(x:Int):Int:=w64 (x+1)
theorem Tr(h:AE):Fi h=((Je h.AQ).length:Int)::(Je h.AQ++(h.Now::h.A5::(h.AG.length:Int)::(h.AG.flatMap Lt++(h.AJ.map fr++((h.BF.length:Int)::(h.BF++h.BD.map up)))))):=by
 have a:∀l:List Ah,l.flatMap (λc=>[c.AX.D7])=l.map fr:=λl=>by rw[JS];rfl
 have e:∀l:List Int,l.flatMap (λx=>[w64 (x+1)])=l.map up:=λl=>by rw[JS];rfl
 grind[Fi]
def mi(r:AY)(ps:List AU)(now:Int)(i:Nat)(free:Int):Ah:=
 ⟨⟨r.AX.getD i 0,free,Ja ps i,w64 (w64 (r.AX.getD i 0-free)-Ja ps i),J2 ps i⟩,EB r ps i now,(Mc (Gt ps i)).1⟩
theorem AWK(H:n<=4)(h:Hq t n=true):t.length<=n:=by
 by_cases c:t.length<=n
 .exact c
 .exfalso;have a:∀k (B:k<t.length),0<=t[k]/\t[k]<n/\∀j (G:j<k),t[j]≠t[k]:=by
   intro k B;have y:=J1.1 h k B;unfold SK at y;rw[Ca B,AF,B9,A7]at y;refine⟨y.1.1,by omega,λj G e=>?_⟩;have E:=y.2;simp only[A8,KH,beq_iff_eq]at E;refine E t[j] ?_ e;rw[C4];exact⟨j,by rw[Aj];omega,by rw[List.getElem_take]⟩
  have I:=a 0 (by omega)
  match n,H,c,a with
  |0,_,c,a=>have:=a 0 (by omega);omega|1,_,c,a=>
   have a0:=a 0 (by omega);have g:=a 1 (by omega);have:=g.2.2 0 (by omega);omega
  |2,_,c,a=>
   have a0:=a 0 (by omega);have g:=a 1 (by omega);have q:=a 2 (by omega);have:=g.2.2 0 (by omega);have:=q.2.2 0 (by omega);have:=q.2.2 1 (by omega);omega
  |3,_,c,a=>
   have a0:=a 0 (by omega);have g:=a 1 (by omega);have q:=a 2 (by omega);have a3:=a 3 (by omega);have:=g.2.2 0 (by omega);have:=q.2.2 0 (by omega);have:=q.2.2 1 (by omega);have:=a3.2.2 0 (by omega);have:=a3.2.2 1 (by omega);have:=a3.2.2 2 (by omega);omega
  |4,_,c,a=>
   have a0:=a 0 (by omega);have g:=a 1 (by omega);have q:=a 2 (by omega);have a3:=a 3 (by omega);have a4:=a 4 (by omega)
   grind
structure AcJ(h:AE):Prop where
 rules:Dp h.AQ=true
 Ds:1<=h.AQ.AX.length/\h.AQ.AX.length<=4
 AcK:1<=h.AQ.C7/\h.AQ.C7<=3
 few:h.AG.length<=40
 par:∀i (hi:i<h.AG.length),D3 h.AQ h.AG[i] h.Now=true
 Dz:h.AJ.length=h.AQ.AX.length
 cab:∀i (hi:i<h.AJ.length),h.AJ[i]=mi h.AQ h.AG h.Now i (fr h.AJ[i])/\0<=fr h.AJ[i]/\fr h.AJ[i]<=h.AQ.AX.getD i 0/\Da h.AG i<=10
 todo:h.BF.length<=h.AQ.AX.length
 Oi:(h.BD.length:Int)=h.AQ.C7
 job:∀x∈h.BD,-1<=x/\x<4
def yc(a:HO w=true):(Mc (E8 w)).1=w:=by
 unfold E8;rw[AW a,pQ (EU.1 a)]
theorem Ns(O:DC h=true):AcJ h:=by
 have ⟨q,h2,h3,E,G,H,I,J,L,g⟩:=Jm O;have j:=CO q;have hcrew:1<=h.AQ.C7/\h.AQ.C7<=3:=j.2.2.2.2.2.2.2.2.2;refine⟨q,j.1,hcrew,E,?_,G,?_,?_,L,?_⟩
 .intro i hi;have:=J1.1 H i hi;unfold cR at this;rw[Ca hi,AF]at this;exact this.1
 .intro i hi;have y:i<h.AQ.AX.length:=by omega
  have a:=J1.1 g i hi;unfold Wb at a;rw[Ca hi,Ca y]at a;unfold KX L0 Ep at a;simp only[AF,beq_iff_eq,B9,A8,decide_eq_false_iff_not,HR dx,HR dy]at a;have ⟨S,⟨⟨⟨l1,l2,l3,l4,l5,l6⟩,k3,X⟩,Y,Z,k7,k8⟩,k9⟩:=a;have hD:h.AQ.AX.getD i 0=h.AQ.AX[i]:=by simp[List.getD,y]
  have hroom:=j.2.2.1;have B:=yc X;rw[Z]at B;unfold mi fr;rw[hD,<-Y,<-k7,<-k8,<-S,B];generalize h.AJ[i]=c at *;have ⟨⟨t,f,e,s,td⟩,row,wh⟩:=c;dsimp only at *;have e1:w64 (f+e)=f+e:=A7 (by omega) (by omega);have e2:w64 (f+e+s)=f+e+s:=A7 (by omega) (by omega)
  grind[A7]
 .have:=AWK (by omega) I;omega
 .intro x Q;have:=CG.1 J x Q;rw[B9,A7]at this;omega
def LW(l:List Int):AY×Bool:=
 match l with
 |a::b::c::d::e::f::g::i::x::s=>if Dp ⟨x::s,a,b,c,d,e,f,g,i⟩=true then (⟨x::s,a,b,c,d,e,f,g,i⟩,true) else (za,false)|_=>(za,false)
def nY(h:(LW l).2=true):Dp (LW l).1=true/\Je (LW l).1=l:=by
 unfold LW at *;split at h
 .split at h
  .rename_i a;rw[AW a];exact⟨a,rfl⟩
  .cases h
 .cases h
def Nt{r:AY}(j:Dp r=true):LW (Je r)=(r,true):=by
 have q:=(CO j).1.1;have ⟨s,a,b,c,d,e,f,g,i⟩:=r
 match s,q with
 |x::s,_=>
  show (if Dp _=true then _ else _)=_;rw[AW j]
def zC{l:List Int}(hl:l.length<=1048576):AJK l=some (LW l):=by
 unfold AJK
 match l,hl with
 | [],_=>rfl| [_],_=>rfl| [_,_],_=>rfl| [_,_,_],_=>rfl| [_,_,_,_],_=>rfl| [_,_,_,_,_],_=>rfl| [_,_,_,_,_,_],_=>rfl| [_,_,_,_,_,_,_],_=>rfl| [_,_,_,_,_,_,_,_],_=>rfl|a::b::c::d::e::f::g::i::x::s,hl=>
  simp only[AI]at hl;have Q:(x::s).length<2 ^ 62:=by simp only[AI];omega
  rw[BX,AT (by simp only[AI];omega)];have j:at? (a::b::c::d::e::f::g::i::x::s) 0=some a:=rfl;have q:at? (a::b::c::d::e::f::g::i::x::s) 1=some b:=rfl;have y:at? (a::b::c::d::e::f::g::i::x::s) 2=some c:=rfl;have B:at? (a::b::c::d::e::f::g::i::x::s) 3=some d:=rfl;have E:at? (a::b::c::d::e::f::g::i::x::s) 4=some e:=rfl;have G:at? (a::b::c::d::e::f::g::i::x::s) 5=some f:=rfl;have H:at? (a::b::c::d::e::f::g::i::x::s) 6=some g:=rfl;have I:at? (a::b::c::d::e::f::g::i::x::s) 7=some i:=rfl;have J:List.drop (Int.toNat 8) (a::b::c::d::e::f::g::i::x::s)=x::s:=rfl;have L:(0:Int)<=8/\(8:Int)<=((a::b::c::d::e::f::g::i::x::s).length:Int):=by simp only[AI];omega
  have hlim:=Acx;have O:0+(x::s).length<=lim:=by simp only[AI];omega
  simp only[j,q,y,B,E,G,H,I,J,AB,CD L,CD O,Co,LF,LG,LH,LI,Kj,LJ,LK,Be,Jp (r:=⟨x::s,a,b,c,d,e,f,g,i⟩) Q,BG];unfold LW;dsimp only;cases Dp ⟨x::s,a,b,c,d,e,f,g,i⟩<;>rfl
def xe{l:List Int}(hl:l.length<=1048576):AI4 l=some (LW l):=by
 unfold AI4
 match l,hl with
 | [],_=>rfl| [_],_=>rfl| [_,_],_=>rfl| [_,_,_],_=>rfl| [_,_,_,_],_=>rfl| [_,_,_,_,_],_=>rfl| [_,_,_,_,_,_],_=>rfl| [_,_,_,_,_,_,_],_=>rfl| [_,_,_,_,_,_,_,_],_=>rfl|a::b::c::d::e::f::g::i::x::s,hl=>
  simp only[AI]at hl;have Q:(x::s).length<2 ^ 62:=by simp only[AI];omega
  rw[BX,AT (by simp only[AI];omega)];have j:at? (a::b::c::d::e::f::g::i::x::s) 0=some a:=rfl;have q:at? (a::b::c::d::e::f::g::i::x::s) 1=some b:=rfl;have y:at? (a::b::c::d::e::f::g::i::x::s) 2=some c:=rfl;have B:at? (a::b::c::d::e::f::g::i::x::s) 3=some d:=rfl;have E:at? (a::b::c::d::e::f::g::i::x::s) 4=some e:=rfl;have G:at? (a::b::c::d::e::f::g::i::x::s) 5=some f:=rfl;have H:at? (a::b::c::d::e::f::g::i::x::s) 6=some g:=rfl;have I:at? (a::b::c::d::e::f::g::i::x::s) 7=some i:=rfl;have J:List.drop (Int.toNat 8) (a::b::c::d::e::f::g::i::x::s)=x::s:=rfl;have L:(0:Int)<=8/\(8:Int)<=((a::b::c::d::e::f::g::i::x::s).length:Int):=by simp only[AI];omega
  have O:Kv (x::s)=some (x::s):=UM (by simp only[AI];omega);simp only[j,q,y,B,E,G,H,I,J,AB,CD L,O,Co,LF,LG,LH,LI,Kj,LJ,LK,HX (r:=⟨x::s,a,b,c,d,e,f,g,i⟩) Q,BG];unfold LW;dsimp only;cases Dp ⟨x::s,a,b,c,d,e,f,g,i⟩<;>rfl
def AXJ(x y:Int):(x==y)=true↔x=y:=beq_iff_eq
theorem IM{a b:List Int}(hl:a.length<2 ^ 62):bg a b=some (EJ (·==·) a b):=by
 grind[bg,Ow,AB6,BQ,BM,AB,AB5,BW,AV]
theorem Ms{a b:List Int}(hl:a.length<2 ^ 62):bW a b=some (EJ (·==·) a b):=by
 grind[bW,Ow,ABe,BQ,BM,AB,ABd,BW,AV]
theorem pE{a b:List Int}(hl:a.length<2 ^ 62):AJN a b=some (EJ (·==·) a b):=by
 grind[AJN,Ow,ACA,BQ,BM,AB,AB9,BW,AV]
def rd(l:List Int)(k:Nat)(b:Bool):Dj:=⟨l,(k:Int),b⟩
theorem xw{b:Bool}(hl:l.length<=1048576)(q:k<=l.length) :
 ∃n a c,bX (rd l k b)=some (n,rd l a c)/\a<=l.length/\∀x rest,l.drop k=x::rest->n=x/\l.drop a=rest/\c=b:=by
 unfold bX;rw[BX];rcases Aa k l.length with h|h
 .rw[AT (show ¬((rd l k b).at_>=((rd l k b).Tm.length:Int)) from by show ¬((k:Int)>=(l.length:Int));omega)];have g:w64 ((k:Int)+1)=((k+1:Nat):Int):=Bv h (by omega);have j:w64 (((k+1:Nat):Int)-1)=(k:Int):=by rw[A7];omega
  show ∃n a c,(bd (at? l (w64 (w64 ((k:Int)+1)-1))) λy=>some (y,Dj.mk l (w64 ((k:Int)+1)) b))=_/\_;rw[g,j,BM h,AB];refine⟨_,k+1,b,rfl,by omega,λx rest e=>?_⟩
  grind[Dt]
 .rw[AW (show (rd l k b).at_>=((rd l k b).Tm.length:Int) from by show (k:Int)>=(l.length:Int);omega)];refine⟨0,k,true,rfl,q,λx rest e=>?_⟩;rw[As h]at e;cases e
theorem dX{l:List Int}{k:Nat}{b:Bool}(hl:l.length<=1048576)(B:k<=l.length){m:Int}(E:0<=m) :
 ∃n a c,bY (rd l k b) m=some (n,rd l a c)/\a<=l.length/\0<=n/\n<=m/\∀x rest,l.drop k=x::rest->0<=x->x<=m->n=x/\l.drop a=rest/\c=b:=by
 have ⟨n,a,c,g,j,y⟩:=xw (b:=b) hl B;unfold bY;rw[g,AB,GZ,AB,BG];cases e:inB n 0 m with
 |true=>
  rw[B9]at e;exact⟨n,a,c,rfl,j,e.1,e.2,λx rest q _ _=>y x rest q⟩
 |false=>
  refine⟨0,a,true,rfl,j,by omega,E,λx rest q G g=>?_⟩
  grind[inB]
theorem yA{b:Bool}(hl:l.length<=1048576)(Z:k<=l.length)(hn:n<=1048576) :
 ∃xs a e,bZ (rd l k b) (n:Int)=some (xs,rd l a e)/\a<=l.length/\xs.length=n/\∀ys rest,l.drop k=ys++rest->ys.length=n->xs=ys/\l.drop a=rest/\e=b:=by
 unfold bZ;have key:=Xz (F:=iL (n:Int)) (n:=n) (λi (v:List Int×Nat×Bool)=>(v.1,(i:Int),rd l v.2.1 v.2.2))
  (λi v=>v.1.length=i/\v.2.1<=l.length/\∀ys rest,l.drop k=ys++rest->ys.length=n->v.1=ys.take i/\l.drop v.2.1=ys.drop i++rest/\v.2.2=b)
  (λr:List Int×Dj=>∃a e,r.2=rd l a e/\a<=l.length/\r.1.length=n/\∀ys rest,l.drop k=ys++rest->ys.length=n->r.1=ys/\l.drop a=rest/\e=b) (by omega) ?_ (v:=([],k,b)) ⟨rfl,Z,λys rest h _=>⟨by simp,by simpa using h,rfl⟩⟩
 .have ⟨r,hr,a,e,y,S,X,Y⟩:=key;exact⟨r.1,a,e,by rw[<-y];exact hr,S,X,Y⟩
 .rintro L i ⟨xs,q,c⟩ ⟨B,E,G⟩ hi H;dsimp only at B E G H ⊢;unfold iL;dsimp only;rcases Aa i n with h|h
  .have ⟨x,q',I,J,O,Q⟩:=xw (b:=c) hl E;have hlim:=Acx;rw[CF h,BQ,J,AB,CD (by rw[Nn];omega),Bv h];refine H (xs++[x],q',I) ⟨by simp[B],O,λys rest hy j=>?_⟩ h;have ⟨p1,p2,p3⟩:=G ys rest hy j;have g:i<ys.length:=by omega
   rw[Dt g]at p2;have ⟨u1,u2,u3⟩:=Q _ _ p2;refine⟨?_,u2,u3.trans p3⟩;rw[p1,u1,CT,AR g];rfl
  .obtain rfl:i=n:=by omega
   rw[C2,BW,AV];unfold ABh
   grind
def ten{α:Type}{l:List α}(h:l.length=10):∃a b c d e f g i j k,l=[a,b,c,d,e,f,g,i,j,k]:=by
 match l,h with
 | [a,b,c,d,e,f,g,i,j,k],_=>exact⟨a,b,c,d,e,f,g,i,j,k,rfl⟩
theorem AXj{b:Bool}(hl:l.length<=1048576)(hk:k<=l.length) :
 ∃p E G,AJL (rd l k b)=some (p,rd l E G)/\E<=l.length/\∀(q:AU) rest,l.drop k=Lt q++rest -> -1<=q.B0->q.B0<=1048576->p=q/\l.drop E=rest/\G=b:=by
 have ⟨xs,E,G,h1,h2,h3,h4⟩:=yA (b:=b) hl hk (n:=10) (by omega);obtain⟨a0,c,a,a3,a4,e,g,j,y,B,rfl⟩:=ten h3;unfold AJL;rw[show (10:Int)=((10:Nat):Int) from rfl,h1,AB];have H:at? [a0,c,a,a3,a4,e,g,j,y,B] 0=some a0:=rfl;have I:at? [a0,c,a,a3,a4,e,g,j,y,B] 1=some c:=rfl;have J:at? [a0,c,a,a3,a4,e,g,j,y,B] 2=some a:=rfl;have L:at? [a0,c,a,a3,a4,e,g,j,y,B] 3=some a3:=rfl;have O:at? [a0,c,a,a3,a4,e,g,j,y,B] 4=some a4:=rfl;have Q:at? [a0,c,a,a3,a4,e,g,j,y,B] 5=some e:=rfl;have S:at? [a0,c,a,a3,a4,e,g,j,y,B] 6=some g:=rfl;have X:at? [a0,c,a,a3,a4,e,g,j,y,B] 7=some j:=rfl;have Y:at? [a0,c,a,a3,a4,e,g,j,y,B] 8=some y:=rfl;have Z:at? [a0,c,a,a3,a4,e,g,j,y,B] 9=some B:=rfl;simp only[H,I,J,L,O,Q,S,X,Y,Z,AB,Of];refine⟨_,E,G,rfl,h2,λq rest hq hf hf2=>?_⟩;have ⟨p1,p2,p3⟩:=h4 (Lt q) rest hq rfl;refine⟨?_,p2,p3⟩;unfold Lt at p1;simp only[CE,and_true]at p1;have ⟨q0,q1,q2,q3,q4,q5,q6,q7,q8,q9⟩:=p1;rw[A7]at q2;have hfrom:w64 ((if a>0 then a else 0)-1)=q.B0:=by
  grind[A7]
 rw[hfrom,q0,q1,q3,q4,q5,q6,q7,q8,q9]
def tl4(g:AE):List Int:=(g.BF.length:Int)::(g.BF++g.BD.map up)
def tl3(g:AE)(i:Nat):List Int:=(g.AJ.drop i).map fr++tl4 g
def tl2(g:AE)(i:Nat):List Int:=(g.AG.drop i).flatMap Lt++tl3 g 0
def sG(h:Good g l):l=((Je g.AQ).length:Int)::(Je g.AQ++(g.Now::g.A5::(g.AG.length:Int)::tl2 g 0)):=by
 rw[<-h.2.2,Tr];simp only[tl2,tl3,tl4,Cu]
def Hd(g:AE)(R:AY)(now turn:Int):Prop:=g.AQ=R/\g.Now=now/\g.A5=turn
def sJ{R:AY}(hR:h.AQ=R):AE.mk (AY.mk R.AX R.Cd R.Room R.BL R.CK R.B7 R.Rest R.Cl R.C7) h.Now h.A5 h.AG h.AJ h.BF h.BD=h:=by
 subst hR;rfl
theorem Ox{a b:List Int}:EJ (·==·) a b=true↔a=b:=HR AXJ
def jb(j:Int):Int:=w64 ((if j > -5 then j else -5)-1)
theorem Aag(h:-1<=x)(a:x<4):jb (up x)=x:=by
 unfold jb up
 grind[A7]
section spec
variable{l:List Int}(hl:l.length<=1048576){R:AY×Bool}{now turn:Int}
include hl
theorem Aa9{x:List Int×Dj}{h:AE}(hR:h.AQ=R.1)(e:Bt h)(c:∀g,Good g l->g=h/\x.2.zx=false) :
 ∃r,TE l R x ((),R.1.Cd,R.1.Room,R.1.BL,R.1.CK,R.1.B7,R.1.Rest,R.1.Cl,R.1.C7,h.Now,h.A5,h.AG,h.AJ,h.BF,h.BD)=some r/\Red l r:=by
 unfold TE XM;dsimp only;rw[sJ hR];cases q:x.2.zx with
 |true=>
  rw[BQ,AV,BQ];exact⟨_,rfl,Red.bad λg a=>by have:=(c g a).2;rw[q]at this;cases this⟩
 |false=>
  rw[BW,Gp e,AB,BG];cases hB:DC h with
  |false=>
   rw[BW,AV,BQ];exact⟨_,rfl,Red.bad λg a=>by rw[(c g a).1]at a;rw[a.1]at hB;cases hB⟩
  |true=>
   have B:=Uj e hB;rw[BQ,tN e hB,AB,IM (by omega),AB,AV,BG];cases j:EJ (·==·) (Fi h) l with
   |true=>
    rw[BQ];exact⟨_,rfl,λ_=>⟨⟨hB,e,Ox.1 j⟩,λg a=>(c g a).1⟩,λy=>by cases y⟩
   |false=>
    rw[BW];refine⟨_,rfl,Red.bad λg a=>?_⟩;rw[(c g a).1]at a;rw[Ox.2 a.2.2]at j;cases j
theorem AbC{x:List Int×Dj}{ps:List AU}{cs:List Ah}{td:List Int}(g:x.1.length<=1048576) :
 A9 (jG l R x) big (0,(),R.1.Cd,R.1.Room,R.1.BL,R.1.CK,R.1.B7,R.1.Rest,R.1.Cl,R.1.C7,now,turn,ps,cs,td,[]) =
  TE l R x ((),R.1.Cd,R.1.Room,R.1.BL,R.1.CK,R.1.B7,R.1.Rest,R.1.Cl,R.1.C7,now,turn,ps,cs,td,x.1.map jb):=by
 refine DK (n:=x.1.length) (λi (v:List Int)=>((i:Int),(),R.1.Cd,R.1.Room,R.1.BL,R.1.CK,R.1.B7,R.1.Rest,R.1.Cl,R.1.C7,now,turn,ps,cs,td,v)) (λi v=>v=(x.1.take i).map jb)
  (λ_ _=>TE l R x ((),R.1.Cd,R.1.Room,R.1.BL,R.1.CK,R.1.B7,R.1.Rest,R.1.Cl,R.1.C7,now,turn,ps,cs,td,x.1.map jb)) (by omega) ?_ (v:=[]) (by simp)
 intro L i v a hi e;unfold jG;dsimp only;rcases Aa i x.1.length with h|h
 .have hlim:=Acx;have c:v.length<=1048576:=by rw[a,Ac,Aj];omega
  simp only[CF h,BQ,BM h,AB,Of,Bv h (by omega:x.1.length<2 ^ 63)];rw[CD (by rw[Nn];omega)];refine e _ ?_ h;rw[a,CT,AR h,List.map_append];rfl
 grind[BW,AV]
theorem Aa8(hr:Dp R.1=true){ps:List AU}{cs:List Ah}{k:Nat}{b:Bool}(hk:k<=l.length)(B:ps.length<=1048576)(q:cs.length<=1048576)(j:∀c∈cs,FT c)
 (ha:∀g,Good g l->Hd g R.1 now turn/\g.AG=ps/\g.AJ=cs/\l.drop k=tl4 g/\b=false) :
 ∃r,jD l R ((),R.1.Cd,R.1.Room,R.1.BL,R.1.CK,R.1.B7,R.1.Rest,R.1.Cl,R.1.C7,now,turn,ps,cs,[],[],rd l k b)=some r/\Red l r:=by
 have E:=CO hr;have hcrew:=E.2.2.2.2.2.2.2.2.2;unfold jD;dsimp only;have ⟨nt,k1,J,O,Q,S,e4,X⟩:=dX (b:=b) hl hk (m:=(R.1.AX.length:Int)) (by omega);obtain⟨n,rfl⟩:=Ai S;have ⟨td,k2,G,Y,Z,f3,f4⟩:=yA (b:=J) hl Q (n:=n) (by omega);have ⟨c,H⟩:=Ai (show 0<=R.1.C7 by omega);have ⟨js,k3,L,g1,g2,g3,g4⟩:=yA (b:=G) hl Z (n:=c) (by omega);rw[O,AB];dsimp only;rw[Y,AB];dsimp only;have e:bZ (rd l k2 G) R.1.C7=some (js,rd l k3 L):=by rw[H];exact g1
 rw[e,AB];rw[AbC hl (by dsimp only;omega)];refine Aa9 hl (h:=⟨R.1,now,turn,ps,cs,td,js.map jb⟩) rfl ⟨by dsimp only;omega,B,q,j,by dsimp only;omega,by dsimp only;rw[Ac];omega⟩ ?_;intro g I;have ⟨⟨q1,q2,q3⟩,q4,q5,q6,q7⟩:=ha g I;have a:=Ns I.1;have ⟨u1,u2,u3⟩:=X _ _ q6 (by omega) (by have:=a.todo;rw[q1]at this;omega);have ⟨v1,v2,v3⟩:=f4 _ _ u2 (by omega);have ⟨w1,w2,w3⟩:=g4 (g.BD.map up) [] (by rw[v2,CX]) (by rw[Ac];have:=a.Oi;rw[q1,H]at this;omega);have hj:js.map jb=g.BD:=by
  rw[w1,DP]
  conv=>rhs;rw[<-OI g.BD]
  apply JR;intro y hy;have:=a.job y hy;exact Aag this.1 this.2
 refine⟨?_,by dsimp only[rd];rw[w3,v3,u3,q7]⟩;rw[hj,v1];cases g
 grind
theorem AbB(X:Dp R.1=true){ps:List AU}{k:Nat}{b:Bool}(hk:k<=l.length)(hps:ps.length<=40)
 (ha:∀g,Good g l->Hd g R.1 now turn/\g.AG=ps/\l.drop k=tl3 g 0/\b=false) :
 ∃r,jC l R ((),R.1.Cd,R.1.Room,R.1.BL,R.1.CK,R.1.B7,R.1.Rest,R.1.Cl,R.1.C7,now,turn,ps,[],[],[],rd l k b)=some r/\Red l r:=by
 have O:=CO X;unfold jC;dsimp only;refine Xz (n:=R.1.AX.length) (λi (v:List Ah×Nat×Bool)=>((i:Int),(),R.1.Cd,R.1.Room,R.1.BL,R.1.CK,R.1.B7,R.1.Rest,R.1.Cl,R.1.C7,now,turn,ps,v.1,[],[],rd l v.2.1 v.2.2))
  (λi v=>v.1.length=i/\(∀c∈v.1,FT c)/\v.2.1<=l.length/\∀g,Good g l->Hd g R.1 now turn/\g.AG=ps/\v.1=g.AJ.take i/\l.drop v.2.1=tl3 g i/\v.2.2=false)
  (Red l) (by omega) ?_ (v:=([],k,b)) ⟨rfl,by simp,hk,λg j=>by have ⟨h1,h2,h3,h4⟩:=ha g j;exact⟨h1,h2,by simp,h3,h4⟩⟩
 rintro L i ⟨cs,q,c⟩ ⟨S,gf,H,I⟩ hi Y;dsimp only at S gf H I Y ⊢;unfold AB8;dsimp only;rcases Aa i R.1.AX.length with h|h
 .have hseat:=O.2.2.2.2.2.1 _ (Ak h);have hD:R.1.AX.getD i 0=R.1.AX[i]:=by simp[List.getD,h]
  have ⟨a,q',c',e1,e2,e3,e4,e5⟩:=dX (b:=c) hl H (m:=R.1.AX[i]) (by omega);have J:(Gt ps (i:Int)).length<=1048576:=by
   unfold Gt;rw[Jn];have:=CZ (NL (i:Int)) ps;omega
  have hlim:=Acx;rw[CF h,BQ,BM h];simp only[AB,e1,cq (show ps.length<=1048576 by omega),zD J,cj (show ps.length<2 ^ 58 by omega),dB (show ps.length<2 ^ 58 by omega),Co,LF,LG,LH,LI,Kj,LJ,LK,SG (r:=R.1) (show R.1.AX.length<2 ^ 62 by omega) (show ps.length<=1048576 by omega)];rw[CD (by rw[Nn];omega),Bv h];have B:Ah.mk (BO.mk R.1.AX[i] a (Ja ps i) (w64 (w64 (R.1.AX[i]-a)-Ja ps i)) (J2 ps i)) (EB R.1 ps i now) (Mc (Gt ps i)).1=mi R.1 ps now i a:=by unfold mi;rw[hD]
  rw[B];refine Y (cs++[mi R.1 ps now i a],q',c') ⟨by simp[S],?_,e2,λg j=>?_⟩ h
  .intro x E;rcases Bs.1 E with E|E
   .exact gf x E
   .rw[D5.1 E];refine⟨?_,dI _⟩;unfold mi EB;dsimp only;rw[Jn];have:=CZ (MQ R.1 (i:Int) now) ps;omega
  .have ⟨⟨p1,p2,p3⟩,p4,p5,G,Q⟩:=I g j;have e:=Ns j.1;have y:i<g.AJ.length:=by rw[e.Dz,p1];exact h
   have ⟨w1,w2,Z,w4⟩:=e.cab i y;unfold tl3 at G;rw[Dt y,AK]at G;have ⟨u1,u2,u3⟩:=e5 _ _ G w2 (by rw[p1,hD]at Z;exact Z);refine⟨⟨p1,p2,p3⟩,p4,?_,u2,u3.trans Q⟩;rw[CT,AR y,p5,u1];rw[p1,p4,p2]at w1
   conv=>rhs;rw[w1]
   rfl
 .obtain rfl:i=R.1.AX.length:=by omega
  rw[C2,BW,AV];refine Aa8 hl X H (by omega) (by omega) gf λg j=>?_
  have ⟨p1,p4,p5,G,Q⟩:=I g j;have e:=Ns j.1;have hn:g.AJ.length=R.1.AX.length:=by rw[e.Dz,p1.1]
  refine⟨p1,p4,?_,?_,Q⟩
  .rw[p5,BE (by omega)]
  .rw[G];unfold tl3;rw[As (by omega)];rfl
theorem AbA(Y:Dp R.1=true){n:Int}{x:Int×Dj}(hx:x.1=n)(O:0<=n)(hn:n<=40){k:Nat}{b:Bool}(hk:k<=l.length)
 (ha:∀g,Good g l->Hd g R.1 now turn/\(g.AG.length:Int)=n/\l.drop k=tl2 g 0/\b=false) :
 ∃r,A9 (jE l R x) big (0,(),R.1.Cd,R.1.Room,R.1.BL,R.1.CK,R.1.B7,R.1.Rest,R.1.Cl,R.1.C7,now,turn,[],[],[],[],rd l k b)=some r/\Red l r:=by
 have hrl:=CO Y;obtain⟨m,rfl⟩:=Ai O;refine Xz (n:=m) (λi (v:List AU×Nat×Bool)=>((i:Int),(),R.1.Cd,R.1.Room,R.1.BL,R.1.CK,R.1.B7,R.1.Rest,R.1.Cl,R.1.C7,now,turn,v.1,[],[],[],rd l v.2.1 v.2.2))
  (λi v=>v.1.length=i/\v.2.1<=l.length/\∀g,Good g l->Hd g R.1 now turn/\g.AG.length=m/\v.1=g.AG.take i/\l.drop v.2.1=tl2 g i/\v.2.2=false)
  (Red l) (by omega) ?_ (v:=([],k,b)) ⟨rfl,hk,λg a=>by have ⟨h1,h2,h3,h4⟩:=ha g a;exact⟨h1,by omega,by simp,h3,h4⟩⟩
 rintro L i ⟨ps,q,c⟩ ⟨X,J,B⟩ hi Z;dsimp only at X J B Z ⊢;unfold jE;dsimp only;rw[hx];rcases Aa i m with h|h
 .have ⟨p,q',S,e1,e2,e3⟩:=AXj (b:=c) hl J;rw[CF h,BQ,e1,AB];dsimp only;rw[Nw (by omega),AB,BG];have E:∀g,Good g l->p=g.AG.getD i ⟨0,0,0,0,0,0,0,0,0,0⟩/\i<g.AG.length/\l.drop q'=tl2 g (i+1)/\S=false:=by
   intro g a;have ⟨p1,p2,p3,p4,p5⟩:=B g a;have j:i<g.AG.length:=by omega
   have G:=FF ((Ns a.1).par i j);have hs:=(CO G.1).1;unfold tl2 at p4;rw[Dt j,CS,BR]at p4;have ⟨H,y,I⟩:=e3 _ _ p4 G.2.2.2.2.1.1 (by omega);refine⟨?_,j,y,I.trans p5⟩;rw[H];simp[List.getD,j]
  cases Q:D3 R.1 p now with
  |true=>
   have hlim:=Acx;rw[BQ,CD (by rw[Nn];omega),Bv h];refine Z (ps++[p],q',S) ⟨by simp[X],e2,λg a=>?_⟩ h;have ⟨p1,p2,p3,p4,p5⟩:=B g a;have ⟨H,y,I,u4⟩:=E g a;refine⟨p1,p2,?_,I,u4⟩;rw[CT,AR y,p3,H];simp[List.getD,y]
  |false=>
   rw[BW];refine⟨_,rfl,Red.bad λg a=>?_⟩;have ⟨p1,p2,p3,p4,p5⟩:=B g a;have ⟨H,y,I,u4⟩:=E g a;have:=(Ns a.1).par i y;rw[H]at Q;have e:g.AG.getD i ⟨0,0,0,0,0,0,0,0,0,0⟩=g.AG[i]:=by simp[List.getD,y]
   rw[e,<-p1.1,<-p1.2.1,this]at Q;cases Q
 .obtain rfl:i=m:=by omega
  rw[C2,BW,AV];refine AbB hl Y J (by omega) λg a=>?_
  have ⟨p1,p2,p3,p4,p5⟩:=B g a;refine⟨p1,?_,?_,p5⟩
  .rw[p3,BE (by omega)]
  .rw[p4];unfold tl2;rw[As (by omega)];rfl
end spec
theorem y6{l:List Int}(hl:l.length<=1048576):∃r,AB7 l=some r/\Red l r:=by
 unfold AB7;have ⟨sz,k1,y,J,L,a3,a4,O⟩:=dX (l:=l) (k:=0) (b:=false) hl (EA _) (m:=12) (by omega);obtain⟨s,rfl⟩:=Ai a3;obtain⟨xs,k2,B,X,Y,c3,c4⟩:=yA (b:=y) hl L (n:=s) (by omega);have j:bY (Dj.mk l 0 false) 12=some ((s:Int),rd l k1 y):=J;rw[j,AB];dsimp only;rw[X,AB];dsimp only;rw[zC (by omega),AB,BG];have e:∀g,Good g l->xs=Je g.AQ/\l.drop k2=g.Now::g.A5::(g.AG.length:Int)::tl2 g 0/\B=false:=by
  intro g c;have hn:=sG c;have E:=MR g.AQ;have a:=Ns c.1;obtain⟨G,H,I⟩:=O _ _ (by rw[Cu];exact hn) (by omega) (by have:=a.Ds;omega)
  grind
 cases hR:(LW xs).2 with
 |false=>
  rw[BW];refine⟨_,rfl,Red.bad λg c=>?_⟩;rw[(e g c).1,Nt (Ns c.1).rules]at hR;cases hR
 |true=>
  rw[BQ];have q:=(nY hR).1;have ⟨n1,k3,Q,Z,d2,d3⟩:=xw (b:=B) hl Y;have ⟨n2,k4,S,f1,f2,f3⟩:=xw (b:=Q) hl d2;have ⟨n3,k5,b5,g1,g2,g3,g4,g5⟩:=dX (b:=S) hl f2 (m:=40) (by omega);simp only[Z,AB,Co,LF,LG,LH,LI,Kj,LJ,LK,zX,f1,g1];refine AbA hl q (now:=n1) (turn:=n2) rfl g3 g4 g2 λg c=>?_
  have ⟨q1,q2,q3⟩:=e g c;have a:=Ns c.1;have ⟨G,H,I⟩:=d3 _ _ q2;have ⟨v1,v2,v3⟩:=f3 _ _ H;have ⟨w1,w2,w3⟩:=g5 _ _ v2 (by omega) (by have:=a.few;omega);refine⟨⟨?_,G.symm,v1.symm⟩,w1.symm,w2,by rw[w3,v3,I,q3]⟩;rw[q1,Nt a.rules]
theorem mG(a:r.AX.length<2 ^ 62){l:List AU}(hl:l.length<=40)(c now:Int):∃q,bQ r l c now=some q/\q.length<=40/\(Da l c<=19->q=EB r l c now):=by
 by_cases e:Da l c<=19
 .refine⟨_,Ro a (by omega) e now,?_,λ_=>rfl⟩;unfold EB;rw[Jn];have:=CZ (MQ r c now) l;omega
 .have hlim:=Acx;unfold bQ;rw[collect (l:=l) (MQ r c now) Su (by omega) ?_ ?_]
  .unfold Su;have:=CZ (MQ r c now) l;have ⟨x,E,g⟩:=oE (l:=l.filterMap (MQ r c now)) (by omega)
   grind[AB]
  .intro L i h v B;unfold Sv Wg Wh MQ;dsimp only;rw[CF h,BQ,BM h,AB,Ni a,AB,AV,AV,CD (by rw[Nn];omega),AV,AV];cases j:(FL r l[i] now).2<;>cases y:l[i].AZ==c<;>simp
  .intro L v;unfold Sv;dsimp only;rw[C2,BW,AV]
theorem pB{l:List AU}(hl:l.length<=40)(c:Int):∃q,fw l c=some q/\q.length<=40/\(Da l c<=19->q=Gt l c):=by
 by_cases a:Da l c<=19
 .refine⟨_,cI (by omega) a,?_,λ_=>rfl⟩;unfold Gt;rw[Jn];have:=CZ (NL c) l;omega
 .have hlim:=Acx;unfold fw;rw[collect (l:=l) (NL c) Sz (by omega) ?_ ?_]
  .unfold Sz;have:=CZ (NL c) l;have ⟨x,B,e⟩:=zJ (l:=l.filterMap (NL c)) (by omega)
   grind[AB]
  .intro L i h v y;unfold S6 Wr Ws NL;dsimp only;rw[CF h,BQ,BM h,AB,AV,AV,CD (by rw[Nn];omega),AV,AV];cases g:l[i].State==2<;>cases j:l[i].AZ==c<;>simp
  .intro L v;unfold S6;dsimp only;rw[C2,BW,AV]
theorem UC{r:List Int}(c:r.length<=1048576):∃xs r',Lf (n:Int) r=some (xs,r')/\r'.length<=1048576/\(n<=10->xs.length=n)/\(n<=r.length->xs.length=n)/\xs.length<=n /\
 ∀ys a,r=ys++a->ys.length=n->xs=ys/\r'=a:=by
 grind[Lf,iD,BX,AV,lim,CD,Int.toNat_natCast]
def AHX{α:Type}{l:List α}(h:l.length=1):∃a,l=[a]:=by
 match l,h with
 | [a],_=>exact⟨a,rfl⟩
def three{α:Type}{l:List α}(h:l.length=3):∃a b c,l=[a,b,c]:=by
 match l,h with
 | [a,b,c],_=>exact⟨a,b,c,rfl⟩
section impl
variable{l:List Int}(hl:l.length<=1048576){R:AY×Bool}{now turn:Int}
include hl
theorem Aaa{h:AE}(hR:h.AQ=R.1)(c:Bt h)(e:∀g,Good g l->g=h) :
 ∃r,TB l R ((),R.1.Cd,R.1.Room,R.1.BL,R.1.CK,R.1.B7,R.1.Rest,R.1.Cl,R.1.C7,h.Now,h.A5,h.AG,h.AJ,h.BF,h.BD)=some r/\Red l r:=by
 unfold TB iI;dsimp only;rw[sJ hR,Fz c,AB,BG];cases hB:DC h with
 |false=>
  rw[BW,AV,BQ];exact⟨_,rfl,Red.bad λg a=>by rw[e g a]at a;rw[a.1]at hB;cases hB⟩
 |true=>
  have y:=Uj c hB;rw[BQ,AMg c hB,AB,Ms (by omega),AB,AV,BG];cases j:EJ (·==·) (Fi h) l with
  |true=>
   rw[BQ];exact⟨_,rfl,λ_=>⟨⟨hB,c,Ox.1 j⟩,λg a=>e g a⟩,λq=>by cases q⟩
  |false=>
   rw[BW];refine⟨_,rfl,Red.bad λg a=>?_⟩;rw[e g a]at a;rw[Ox.2 a.2.2]at j;cases j
theorem Aad{x:List Int×List Int}{ps:List AU}{cs:List Ah}{td:List Int}(c:x.1.length<=1048576) :
 A9 (iK l R x) big (0,(),R.1.Cd,R.1.Room,R.1.BL,R.1.CK,R.1.B7,R.1.Rest,R.1.Cl,R.1.C7,now,turn,ps,cs,td,[]) =
  TB l R ((),R.1.Cd,R.1.Room,R.1.BL,R.1.CK,R.1.B7,R.1.Rest,R.1.Cl,R.1.C7,now,turn,ps,cs,td,x.1.map (λj=>w64 (j-1))):=by
 refine DK (n:=x.1.length) (λi (v:List Int)=>((i:Int),(),R.1.Cd,R.1.Room,R.1.BL,R.1.CK,R.1.B7,R.1.Rest,R.1.Cl,R.1.C7,now,turn,ps,cs,td,v)) (λi v=>v=(x.1.take i).map (λj=>w64 (j-1)))
  (λ_ _=>TB l R ((),R.1.Cd,R.1.Room,R.1.BL,R.1.CK,R.1.B7,R.1.Rest,R.1.Cl,R.1.C7,now,turn,ps,cs,td,x.1.map (λj=>w64 (j-1)))) (by omega) ?_ (v:=[]) (by simp)
 intro L i v a hi e;unfold iK;dsimp only;rcases Aa i x.1.length with h|h
 .grind[lim,BQ,BM,AB,Bv,CD,List.take_add_one]
 grind[BW,AV]
theorem AaZ(hr:Dp R.1=true){ps:List AU}{cs:List Ah}{rest:List Int}(hk:rest.length<=1048576)(L:ps.length<=1048576)(J:cs.length<=1048576)(I:∀c∈cs,FT c)
 (X:∀g,Good g l->Hd g R.1 now turn/\g.AG=ps/\g.AJ=cs/\rest=tl4 g) :
 ∃r,iH l R (rest,(),R.1.Cd,R.1.Room,R.1.BL,R.1.CK,R.1.B7,R.1.Rest,R.1.Cl,R.1.C7,now,turn,ps,cs,[],[])=some r/\Red l r:=by
 have O:=CO hr;have hcrew:=O.2.2.2.2.2.2.2.2.2;unfold iH;dsimp only;have ⟨a,r1,e1,e2,e3,_,_,e4⟩:=UC (n:=1) hk;obtain⟨nt,rfl⟩:=AHX (e3 (by omega));have G:Lf 1 rest=some ([nt],r1):=e1;rw[G,AB,show at? [nt] 0=some nt from rfl,AB,Fv,AB,BG];have B:∀g,Good g l->nt=(g.BF.length:Int)/\r1=g.BF++g.BD.map up:=by
  intro g e;have ⟨q1,Z,q3,Q⟩:=X g e;have ⟨u1,u2⟩:=e4 [(g.BF.length:Int)] (g.BF++g.BD.map up) (by rw[Q];rfl) rfl;cases u1;exact⟨rfl,u2⟩
 cases q:inB nt 0 4 with
 |false=>
  rw[BW];refine⟨_,rfl,Red.bad λg e=>?_⟩;have:=(Ns e.1).todo;have:=(Ns e.1).Ds;have:inB nt 0 4=true:=by rw[B9,(B g e).1];omega
  rw[q]at this;cases this
 |true=>
  rw[BQ];rw[B9]at q;obtain⟨n,rfl⟩:=Ai q.1;have ⟨td,r2,f1,f2,S,_,_,f4⟩:=UC (n:=n) e2;rw[f1,AB,UM (by have:=S (by omega);dsimp only;omega),AB];have ⟨c,Y⟩:=Ai (show 0<=R.1.C7 by omega);have ⟨js,r3,g1,g2,g3,_,_,g4⟩:=UC (n:=c) f2;have H:Lf R.1.C7 r2=some (js,r3):=by rw[Y];exact g1
  have hjl:=g3 (by omega);have htl:=S (by omega);rw[H,AB];rw[Aad hl (by dsimp only;omega)];refine Aaa hl (h:=⟨R.1,now,turn,ps,cs,td,js.map (λj=>w64 (j-1))⟩) rfl ⟨by dsimp only;omega,L,J,I,by dsimp only;omega,by dsimp only;rw[Ac];omega⟩ ?_;intro g e;have ⟨⟨q1,Z,q3⟩,Q,q5,q6⟩:=X g e;have ⟨p1,p2⟩:=B g e;have E:=Ns e.1;have ⟨v1,v2⟩:=f4 _ _ p2 (by omega);have ⟨w1,w2⟩:=g4 (g.BD.map up) [] (by rw[v2,CX]) (by rw[Ac];have:=E.Oi;rw[q1,Y]at this;omega);have hj:js.map (λj=>w64 (j-1))=g.BD:=by
   rw[w1,DP]
   conv=>rhs;rw[<-OI g.BD]
   apply JR;intro y hy;have:=E.job y hy;show w64 (w64 (y+1)-1)=y;rw[A7 (n:=y+1),A7];omega
  rw[hj,v1];cases g;dsimp only at *;rw[q1,Z,q3,Q,q5]
theorem Aac(Q:Dp R.1=true){ps:List AU}{rest:List Int}(hk:rest.length<=1048576)(B:ps.length<=40)
 (ha:∀g,Good g l->Hd g R.1 now turn/\g.AG=ps/\rest=tl3 g 0) :
 ∃r,iG l R (rest,(),R.1.Cd,R.1.Room,R.1.BL,R.1.CK,R.1.B7,R.1.Rest,R.1.Cl,R.1.C7,now,turn,ps,[],[],[])=some r/\Red l r:=by
 have hrl:=CO Q;unfold iG;dsimp only;refine Xz (n:=R.1.AX.length) (λi (v:List Ah×List Int)=>((i:Int),v.2,(),R.1.Cd,R.1.Room,R.1.BL,R.1.CK,R.1.B7,R.1.Rest,R.1.Cl,R.1.C7,now,turn,ps,v.1,[],[]))
  (λi v=>v.1.length=i/\(∀c∈v.1,FT c)/\v.2.length<=1048576/\∀g,Good g l->Hd g R.1 now turn/\g.AG=ps/\v.1=g.AJ.take i/\v.2=tl3 g i)
  (Red l) (by omega) ?_ (v:=([],rest)) ⟨rfl,by simp,hk,λg j=>by have ⟨h1,h2,h3⟩:=ha g j;exact⟨h1,h2,by simp,h3⟩⟩
 rintro L i ⟨cs,q⟩ ⟨O,gf,I,J⟩ hi S;dsimp only at O gf I J S ⊢;unfold ABg;dsimp only;rcases Aa i R.1.AX.length with h|h
 .have hD:R.1.AX.getD i 0=R.1.AX[i]:=by simp[List.getD,h]
  have ⟨a,q',X,Y,Z,_,_,e4⟩:=UC (n:=1) I;obtain⟨f,rfl⟩:=AHX (Z (by omega));have H:Lf 1 q=some ([f],q'):=X;have ⟨qu,u1,u2,u3⟩:=mG (r:=R.1) (show R.1.AX.length<2 ^ 62 by omega) B (i:Int) now;have ⟨pi,v1,v2,v3⟩:=pB B (i:Int);have hlim:=Acx;rw[CF h,BQ,BM h];simp only[AB,H,show at? [f] 0=some f from rfl,u1,v1,xg (show pi.length<=1048576 by omega),cH (show ps.length<2 ^ 58 by omega),cJ (show ps.length<2 ^ 58 by omega),Co,LF,LG,LH,LI,Kj,LJ,LK];rw[CD (by rw[Nn];omega),Bv h];refine S (cs++[Ah.mk (BO.mk R.1.AX[i] f (Ja ps i) (w64 (w64 (R.1.AX[i]-f)-Ja ps i)) (J2 ps i)) qu (Mc pi).1],q') ⟨by simp[O],?_,Y,λg j=>?_⟩ h
  .intro x E;rcases Bs.1 E with E|E
   .exact gf x E
   .rw[D5.1 E];exact⟨by dsimp only;omega,dI _⟩
  .have ⟨⟨p1,p2,p3⟩,p4,p5,G⟩:=J g j;have e:=Ns j.1;have y:i<g.AJ.length:=by rw[e.Dz,p1];exact h
   have ⟨w1,w2,w3,w4⟩:=e.cab i y;unfold tl3 at G;rw[Dt y,AK]at G;have ⟨x1,x2⟩:=e4 [fr g.AJ[i]] (((g.AJ.drop (i+1)).map fr)++tl4 g) (by rw[G];rfl) rfl;cases x1;refine⟨⟨p1,p2,p3⟩,p4,?_,x2⟩
   grind[List.take_add_one,mi]
 .obtain rfl:i=R.1.AX.length:=by omega
  rw[C2,BW,AV];refine AaZ hl Q I (by omega) (by omega) gf λg j=>?_
  have ⟨p1,p4,p5,G⟩:=J g j;have e:=Ns j.1;have hn:g.AJ.length=R.1.AX.length:=by rw[e.Dz,p1.1]
  refine⟨p1,p4,?_,?_⟩
  .rw[p5,BE (by omega)]
  .rw[G];unfold tl3;rw[As (by omega)];rfl
theorem Aab(Z:Dp R.1=true){n:Int}{x:List Int×List Int}(hx:at? x.1 2=some n)(Q:0<=n)(hn:n<=40){rest:List Int}(hk:rest.length<=1048576)
 (ha:∀g,Good g l->Hd g R.1 now turn/\(g.AG.length:Int)=n/\rest=tl2 g 0) :
 ∃r,A9 (iJ l R x) big (0,rest,(),R.1.Cd,R.1.Room,R.1.BL,R.1.CK,R.1.B7,R.1.Rest,R.1.Cl,R.1.C7,now,turn,[],[],[],[])=some r/\Red l r:=by
 have hrl:=CO Z;obtain⟨m,rfl⟩:=Ai Q;refine Xz (n:=m) (λi (v:List AU×List Int)=>((i:Int),v.2,(),R.1.Cd,R.1.Room,R.1.BL,R.1.CK,R.1.B7,R.1.Rest,R.1.Cl,R.1.C7,now,turn,v.1,[],[],[]))
  (λi v=>v.1.length=i/\v.2.length<=1048576/\∀g,Good g l->Hd g R.1 now turn/\g.AG.length=m/\v.1=g.AG.take i/\v.2=tl2 g i)
  (Red l) (by omega) ?_ (v:=([],rest)) ⟨rfl,hk,λg H=>by have ⟨h1,h2,h3⟩:=ha g H;exact⟨h1,by omega,by simp,h3⟩⟩
 rintro L i ⟨ps,q⟩ ⟨X,O,Y⟩ hi ih;dsimp only at X O Y ih ⊢;unfold iJ;dsimp only;rw[hx,AB];rcases Aa i m with h|h
 .have ⟨xs,q',e1,e2,e3,_,_,e4⟩:=UC (n:=10) O;obtain⟨a0,c,a,a3,a4,e,j,y,B,E,rfl⟩:=ten (e3 (by omega));have J:Lf 10 q=some ([a0,c,a,a3,a4,e,j,y,B,E],q'):=e1;have f0:at? [a0,c,a,a3,a4,e,j,y,B,E] 0=some a0:=rfl;have f1:at? [a0,c,a,a3,a4,e,j,y,B,E] 1=some c:=rfl;have f2:at? [a0,c,a,a3,a4,e,j,y,B,E] 2=some a:=rfl;have f3:at? [a0,c,a,a3,a4,e,j,y,B,E] 3=some a3:=rfl;have f4:at? [a0,c,a,a3,a4,e,j,y,B,E] 4=some a4:=rfl;have f5:at? [a0,c,a,a3,a4,e,j,y,B,E] 5=some e:=rfl;have f6:at? [a0,c,a,a3,a4,e,j,y,B,E] 6=some j:=rfl;have f7:at? [a0,c,a,a3,a4,e,j,y,B,E] 7=some y:=rfl;have f8:at? [a0,c,a,a3,a4,e,j,y,B,E] 8=some B:=rfl;have f9:at? [a0,c,a,a3,a4,e,j,y,B,E] 9=some E:=rfl;rw[CF h,BQ,J];simp only[f0,f1,f2,f3,f4,f5,f6,f7,f8,f9,AB];have hlim:=Acx;rw[CD (by rw[Nn];omega),Bv h];refine ih (ps++[⟨a0,c,w64 (a-1),a3,a4,e,j,y,B,E⟩],q') ⟨by simp[X],e2,λg H=>?_⟩ h;have ⟨p1,p2,p3,p4⟩:=Y g H;have G:i<g.AG.length:=by omega
  have I:=FF ((Ns H.1).par i G);have hs:=(CO I.1).1;have hf:=I.2.2.2.2.1;unfold tl2 at p4;rw[Dt G,CS,BR]at p4;have ⟨S,u2⟩:=e4 (Lt g.AG[i]) _ p4 rfl;refine⟨p1,p2,?_,u2⟩;rw[CT,AR G,p3];dsimp only;congr 1;show [_]=[g.AG[i]];congr 1;unfold Lt at S;simp only[CE,and_true]at S;have ⟨q0,q1,q2,q3,q4,q5,q6,q7,q8,q9⟩:=S;have hfrom:w64 (a-1)=g.AG[i].B0:=by
   rw[q2,A7 (n:=g.AG[i].B0+1),A7];omega
  rw[hfrom,q0,q1,q3,q4,q5,q6,q7,q8,q9]
 .obtain rfl:i=m:=by omega
  rw[C2,BW,AV];refine Aac hl Z O (by omega) λg H=>?_
  grind[tl2]
end impl
def xU{l:List Int}(hl:l.length<=1048576):∃r,ABf l=some r/\Red l r:=by
 unfold ABf;have ⟨a,J,a1,a2,a3,_,_,a4⟩:=UC (n:=1) hl;obtain⟨sz,rfl⟩:=AHX (a3 (by omega));have S:Lf 1 l=some ([sz],J):=a1;rw[S,AB,show at? [sz] 0=some sz from rfl,AB,Fv,AB,BG];have B:∀g,Good g l->sz=((Je g.AQ).length:Int)/\J=Je g.AQ++(g.Now::g.A5::(g.AG.length:Int)::tl2 g 0):=by
  intro g c;have ⟨O,I⟩:=a4 [((Je g.AQ).length:Int)] _ (sG c) rfl;cases O;exact⟨rfl,I⟩
 have hbadE:∀(_:∀g,¬Good g l),∃r,S9 l ([sz],J) sz true=some r/\Red l r:=by
  intro Y;unfold S9;rw[BQ];exact⟨_,rfl,Red.bad Y⟩
 cases L:inB sz 9 12 with
 |false=>
  rw[BW,AV];refine hbadE λg c=>?_
  have h1:=MR g.AQ;have h2:=(Ns c.1).Ds;have:inB sz 9 12=true:=by rw[B9,(B g c).1];omega
  rw[L]at this;cases this
 |true=>
  rw[B9]at L;rw[BQ,AV];obtain⟨s,rfl⟩:=Ai (show 0<=sz by omega);dsimp only;by_cases E:(s:Int)>(J.length:Int)
  .rw[show decide ((s:Int)>(J.length:Int))=true from decide_eq_true E];refine hbadE λg c=>?_
   have ⟨O,I⟩:=B g c;rw[I,AH]at E;omega
  .rw[show decide ((s:Int)>(J.length:Int))=false from decide_eq_false E];unfold S9;rw[BW];have ⟨xs,r2,c1,c2,_,c3,_,c4⟩:=UC (n:=s) a2;have hxl:=c3 (by omega);rw[c1,AB];dsimp only;rw[xe (by omega),AB,BG];have e:∀g,Good g l->xs=Je g.AQ/\r2=g.Now::g.A5::(g.AG.length:Int)::tl2 g 0:=by
    intro g c;have ⟨O,I⟩:=B g c;exact c4 _ _ I (by omega)
   cases hR:(LW xs).2 with
   |false=>
    rw[BW];refine⟨_,rfl,Red.bad λg c=>?_⟩;rw[(e g c).1,Nt (Ns c.1).rules]at hR;cases hR
   |true=>
    rw[BQ];have Z:=(nY hR).1;have ⟨ys,r3,d1,d2,d3,_,_,d4⟩:=UC (n:=3) c2;obtain⟨G,H,q,rfl⟩:=three (d3 (by omega));have X:Lf 3 r2=some ([G,H,q],r3):=d1;have y:∀g,Good g l->G=g.Now/\H=g.A5/\q=(g.AG.length:Int)/\r3=tl2 g 0:=by
     intro g c;have ⟨O,I⟩:=e g c;have ⟨Q,v2⟩:=d4 [g.Now,g.A5,(g.AG.length:Int)] (tl2 g 0) (by rw[I];rfl) rfl;simp only[CE,and_true]at Q;exact⟨Q.1,Q.2.1,Q.2.2,v2⟩
    rw[X,AB];dsimp only;rw[show at? [G,H,q] 0=some G from rfl,AB,show at? [G,H,q] 1=some H from rfl,AB,show at? [G,H,q] 2=some q from rfl,AB,Fv,AB,BG];cases j:inB q 0 40 with
    |false=>
     rw[BW];refine⟨_,rfl,Red.bad λg c=>?_⟩;have h2:=(Ns c.1).few;have:inB q 0 40=true:=by rw[B9,(y g c).2.2.1];omega
     rw[j]at this;cases this
    |true=>
     rw[BQ];rw[B9]at j;refine Aab hl Z (x:=([G,H,q],r3)) rfl j.1 j.2 d2 λg c=>?_
     have ⟨q1,q2,q3,q4⟩:=y g c;refine⟨⟨?_,q1.symm,q2.symm⟩,q3.symm,q4⟩;rw[(e g c).1,Nt (Ns c.1).rules]
def tn(hl:l.length<=1048576):∃r,AB7 l=some r/\ABf l=some r/\Red l r:=by
 have ⟨r,c,a⟩:=y6 hl;have ⟨r',e,g⟩:=xU hl;exact⟨r,c,by rw[e,g.one a],a⟩
def MY:Bt I4:=by constructor<;>simp[I4,za]
def Red.fit{l:List Int}{r:AE×Bool}(h:Red l r):Bt r.1:=by
 cases e:r.2 with
 |true=>exact(h.1 e).1.2.1|false=>rw[(h.2 e).1];exact MY
def AUJ:∀{l:List Int},(∀n∈l,okN n)->l.length<=(pL l).length
 | [],_=>by simp|n::l,h=>by
  have c:=AUJ λm a=>h m (Af _ a)
  have e:=nF (h n (BK ..));have:pL (n::l)=pN n++pL l:=rfl;rw[this,AH,AI];omega
structure AWV(s:List UInt8)(r:AE×Int×Bool):Prop where
 yes:r.2.2=true->DC r.1=true/\Bt r.1/\DF r.1 r.2.1=s
 no:r.2.2=false->r=(I4,0,false)
 all:∀h q,DC h=true->Bt h->rdL (s.length+1) (s.drop 4)=some (q::Fi h)->DF h q=s->5<=s.length->r=(h,q,true)
def AWV.fit{s:List UInt8}{r:AE×Int×Bool}(h:AWV s r):Bt r.1:=by
 cases e:r.2.2 with
 |true=>exact(h.yes e).2.1|false=>rw[h.no e];exact MY
def AXv(h:rdL f s=some l):l.length<=s.length/\(s≠[]->l≠[]):=by
 have ⟨a,c⟩:=Yj f s l h;refine⟨by rw[a];exact AUJ c,λe hl=>?_⟩;rw[hl]at a;exact e a
theorem AEW{g:Nat}(h:rdL f s=some l)(e:s.length<g):rdL g s=some l:=by
 have ⟨a,c⟩:=Yj f s l h
 grind[yh]
def MZ{s:List UInt8}(hs:s.length<=1048576):∃r,ACC s=some r/\bh s=some r/\AWV s r:=by
 unfold ACC bh XN jI;by_cases h5:s.length<5
 .rw[BX,BX,ifP,ifP,AV,BQ];exact⟨_,rfl,rfl,⟨λh=>(by cases h),λ_=>rfl,λ_ _ _ _ _ _ h=>absurd h (by omega)⟩⟩
 have Q:(0:Int)<=4/\(4:Int)<=(s.length:Int):=by omega
 have hd:List.drop (Int.toNat 4) s=s.drop 4:=rfl;have y:(s.drop 4).length<=1048576:=by rw[BI];omega
 rw[BX,BX,ifN,ifN,AV,CD Q,CD Q,hd,YJ y,Yz y,AB,AB];have zz:AWV s (I4,0,false)\/True:=.inr trivial;cases e:rdL ((s.drop 4).length+1) (s.drop 4) with
 |none=>
  refine⟨(I4,0,false),?_,rfl,⟨λh=>(by cases h),λ_=>rfl,λh q _ _ c _ _=>?_⟩⟩
  .rw[BX];split<;>rfl
  .rw[AEW c (by omega)]at e;cases e
 |some l=>
  have ⟨l1,l2⟩:=AXv e;have E:=l2 (by rw[<-List.length_pos_iff,BI];omega);obtain⟨q,t,rfl⟩:∃q t,l=q::t:=by
   cases l with
   |nil=>exact(E rfl).elim|cons q t=>exact⟨q,t,rfl⟩
  have H:t.length<=1048576:=by simp only[AI]at l1;omega
  have g1:(0:Int)<=1/\(1:Int)<=((q::t).length:Int):=by simp only[AI];omega
  have G:List.take ((q::t).length-Int.toNat 1) (List.drop (Int.toNat 1) (q::t))=t:=by
   show List.take ((q::t).length-1) t=t;exact BE (by simp only[AI];omega)
  have a0:at? (q::t) 0=some q:=rfl;have ⟨r,i1,i2,I⟩:=tn H;have X:=I.fit;have a:∀h p,rdL (s.length+1) (s.drop 4)=some (p::Fi h)->p=q/\Fi h=t:=by
   intro h p c;rw[AEW c (by omega)]at e;cases e;exact⟨rfl,rfl⟩
  unfold jH;simp only[AHe,BG,BQ,CD g1,G,i1,i2,AB,a0,Iy X q,Pv X q];cases Y:r.2 with
  |false=>
   simp only[BW,AV,BQ];refine⟨(I4,0,false),?_,rfl,⟨λh=>(by cases h),λ_=>rfl,λh p g j c _ _=>?_⟩⟩
   .rw[BX];split<;>rfl
   .exact((I.2 Y).2 h ⟨g,j,(a h p c).2⟩).elim
  |true=>
   simp only[BQ,AV];have ⟨⟨Z,c2,c3⟩,O⟩:=I.1 Y;by_cases hT:DF r.1 q=s
   .have B:=FI r.1 q;rw[hT]at B;rw[show (DF r.1 q != s)=false from by simp[hT],BW,BX,ifN];refine⟨_,rfl,rfl,⟨λ_=>⟨Z,c2,hT⟩,λh=>(by cases h),λh p g j c _ _=>?_⟩⟩;have ⟨J,L⟩:=a h p c;rw[J,O h ⟨g,j,L⟩]
   .rw[show (DF r.1 q != s)=true from by simp[hT],BQ];refine⟨(I4,0,false),?_,rfl,⟨λh=>(by cases h),λ_=>rfl,λh p g j c S _=>?_⟩⟩
    .rw[BX];split<;>rfl
    .have ⟨J,L⟩:=a h p c;rw[J,O h ⟨g,j,L⟩]at S;exact(hT S).elim
def Ci(s:Bj)(k:Int):Bp:=if (k.tmod 2==0)=true then s.Ec else s.Odd
def IL(s:Bj)(k:Int):ACB s k=some (Ci s k):=by unfold ACB Ci br;split<;>rfl
theorem Jb(s:Bj)(k:Int):ACD s k=some (Ci s k):=by unfold ACD Ci br;split<;>rfl
def FR(s:Bj)(k:Int):∃r,Hm s k=some r/\LB s k=some r/\Bt r.1:=by
 unfold Hm LB;rw[IL,Jb,AB,AB,IK,FB,AB,AB,BG,BG];cases h:Ev (Ci s k) with
 |false=>exact⟨_,rfl,rfl,MY⟩|true=>
  unfold Ev at h;rw[AF,decide_eq_true_iff,B9]at h;have ⟨r,a,c,e⟩:=MZ (s:=List.take (Ci s k).Safe.toNat (Ci s k).Data) (by rw[Aj];omega);rw[BQ,BQ,CD h.2,CD h.2,a,c,AB];exact⟨r,rfl,rfl,e.fit⟩
theorem Jk{α:Type}(p:α->Bool):∀(l:List α) (s:Nat),(atF p l s = -1/\l.eraseP p=l/\l.any p=false) \/
 ∃k,∃h:k<l.length,atF p l s=((s+k:Nat):Int)/\l.eraseP p=l.take k++l.drop (k+1)/\l.any p=true/\p l[k]=true
 | [],s=>.inl ⟨rfl,rfl,rfl⟩|x::l,s=>by
  by_cases h:p x=true
  .grind[atF]
  .have g:p x=false:=by simpa using h
   rcases Jk p l (s+1) with ⟨a,c,e⟩|⟨k,q,a,c,e,j⟩
   .grind[atF]
   grind[atF]
theorem VR{l:List A2}(hl:l.length<=1048576)(id:Int):jA l id=some (l.eraseP (λx=>x.Id==id),l.any λx=>x.Id==id):=by
 grind[lim,jA,SF,AB,BX,Jk,UB,A7,CD]
theorem WE{l:List AU}(hl:l.length<=1048576)(id:Int):rH l id=some (atF (λx=>x.Id==id) l 0):=by
 grind[rH,RJ,ABy,BQ,BM,AB,ABx,BW,AV]
theorem pK{l:List AU}(hl:l.length<=1048576)(id:Int):AJH l id=some (l.eraseP (λx=>x.Id==id)):=by
 have hlim:=Acx;unfold AJH;rw[WE hl,AB,BX];rcases Jk (λx:AU=>x.Id==id) l 0 with ⟨a,c,e⟩|⟨k,g,a,c,e,_⟩
 .grind[CD]
 grind[A7,CD]
def l8(l:BO)(n a b c d:Int):BO×Bool:=
 let l':BO:=⟨l.Total,w64 (l.D7+w64 (a*n)),w64 (l.FQ+w64 (b*n)),w64 (l.GB+w64 (c*n)),w64 (l.Gb+w64 (d*n))⟩
 if Ep l=true/\inB n 0 60=true/\Ep l'=true then (l',true) else (l,false)
theorem K2(l:BO)(n a b c d:Int):XK l n a b c d=some (l8 l n a b c d):=by
 unfold XK iy l8
 grind[P2,GZ,AB,AV,Bu]
def pM(l:BO)(n:Int):AJE l n=some (l8 l n 0 0 0 1):=by unfold AJE;rw[K2,AB]
def dR(l:BO)(n:Int):AJI l n=some (l8 l n 0 0 0 (-1)):=by unfold AJI;rw[K2,AB]
def n8(l:BO)(n:Int):ACS l n=some (l8 l n (-1) 1 0 0):=by unfold ACS;rw[K2,AB]
def nz(l:BO)(n:Int):AJG l n=some (l8 l n 1 (-1) 0 0):=by unfold AJG;rw[K2,AB]
def n9(l:BO)(n:Int):AJW l n=some (l8 l n 0 (-1) 1 0):=by unfold AJW;rw[K2,AB]
def n7(l:BO)(n:Int):AJU l n=some (l8 l n 1 0 (-1) 0):=by unfold AJU;rw[K2,AB]
def isP(p:Bf)(x:Bf):Bool:=x.At==p.At&&(x.Id==p.Id&&true)
def U4(w:A3)(p:Bf):A3×Bool:=
 if HO w=true/\1<=p.At then (⟨w.Aw.set (p.At.tmod 9).toNat ((w.Aw.getD (p.At.tmod 9).toNat []).eraseP (isP p))⟩,(w.Aw.getD (p.At.tmod 9).toNat []).any (isP p)) else (w,false)
def VT(q:Dc w)(p:Bf):rJ w p=some (U4 w p):=by
 have hlim:=Acx;have J:=q.1;have y:=q.2;unfold rJ U4;rw[UO q,AB,He q,AB,BG,AV,AV,Bu];by_cases c:HO w=true
 .rw[AW c];unfold i6;rw[BX];by_cases E:p.At<1
  .rw[AW E,ifN]
  .rw[AT E,AW ⟨c,by omega⟩];have ⟨m,S,e⟩:=dH (n:=p.At) (by omega);have hW:=EU.1 c;have a:m<w.Aw.length:=by have:=hW.1;omega
   have I:w.Aw[m].length<=1048576:=Av (MW a) y;rw[e,Ag];have H:w.Aw.getD m []=w.Aw[m]:=by rw[BC,AR a];rfl
   rw[H];generalize g:w.Aw[m]=s at I ⊢;have key:=DK (F:=XL w p w) (n:=s.length) (λi (_:Unit)=>(i:Int)) (λ_ _=>True)
    (λi _=>some (if (s.drop i).any (isP p)=true then ((⟨w.Aw.set m (s.take i++(s.drop i).eraseP (isP p))⟩:A3),true) else (w,false))) (by omega) ?_ (v:=()) trivial
   .have key':A9 (XL w p w) big 0=_:=key;rw[key'];simp only[Cu,List.take_zero,Be];split
    .rename_i h;rw[h]
    .rename_i h;have B:s.any (isP p)=false:=by simpa using h
     have G:s.eraseP (isP p)=s:=List.eraseP_of_forall_not λx O=>by
      have:=KH.1 B x O;simpa using this
     rw[B,G,<-g,List.set_getElem_self]
   .intro L i _ _ hi Q;unfold XL AB3;rw[e,BM a,AB,g];rcases Aa i s.length with h|h
    .rw[CF h,BQ];simp only[AB,BM h,Ag];rw[Dt h];show br (isP p s[i]) _ _=_;cases j:isP p s[i] with
     |true=>
      rw[BQ,Bv h,CD ⟨by omega,by omega⟩,CD ⟨by omega,by omega⟩,CD (by rw[Aj];simp;omega),CD (by rw[AH,Aj];simp;omega)];simp only[Mf,j,Bool.true_or,if_true,H6 j,Be,Ag]
     |false=>
      rw[BW,Bv h,Q () trivial h];simp only[Mf,j,Bool.false_or,H5 (show ¬isP p s[i]=true by rw[j];simp),List.take_succ_eq_append_getElem h,BR,Il]
    .have:i=s.length:=by omega
     subst this;rw[C2,BW,AV,Cq];rfl
 .rw[AT c,AT (by simp[c])];rfl
def GN(h:AE)(id:Int):Int:=atF (λx:AU=>x.Id==id) h.AG 0
theorem Hb(a:Bt h)(id:Int):Mm h id=some (GN h id):=by
 unfold Mm;rw[WE a.CR,AB];rfl
def AAE:Ah:=⟨⟨0,0,0,0,0⟩,[],⟨[]⟩⟩
def yb:AU:=⟨0,0,0,0,0,0,0,0,0,0⟩
theorem F4{k:Int}(a:0<=k)(c:k<h.AJ.length):at? h.AJ k=some (h.AJ.getD k.toNat AAE):=by
 grind[BM]
theorem ZG{k:Int}(a:0<=k)(c:k<h.AG.length):at? h.AG k=some (h.AG.getD k.toNat yb):=by
 grind[BM]
theorem R6(a:0<=GN h id):GN h id<h.AG.length/\(h.AG.getD (GN h id).toNat yb).Id=id:=by
 grind[GN,Jk]
def Kk(h:AE)(k:Int):Int:=w64 ((h.AJ.getD k.toNat AAE).AX.GB-(h.AJ.getD k.toNat AAE).AX.Gb)
theorem VV{k:Int}(a:0<=k)(c:k<h.AJ.length):ACH h k=some (Kk h k):=by
 unfold ACH;rw[F4 a c,AB,AB];rfl
def YP(h:AE)(q:Bq):Int:=
 if (h.AJ.length:Int)<=q.AZ\/(h.AJ.length:Int)<=q.B0\/q.B0=q.AZ then 4
 else if inB q.BL 1 h.AQ.BL=false then 5
 else if h.AQ.Cd<=q.DS then 6
 else if inB q.Id 1 999=false then 7
 else if 0<=GN h q.Id then 8
 else if h.AQ.Room<=Da h.AG q.AZ then 9
 else if 0<=q.B0/\Kk h q.B0<q.BL then 10
 else if 1000000<h.A5 then 11 else 0
theorem zF(a:Bt h)(q:Bq):AJP h q=some (YP h q):=by
 have j:=a.CR;have g:∀b,((h.AJ.length:Int)<=q.B0->b=true)->TJ h q b=some (if b=true then 4
  else if inB q.BL 1 h.AQ.BL=false then 5
  else if h.AQ.Cd<=q.DS then 6
  else if inB q.Id 1 999=false then 7
  else if 0<=GN h q.Id then 8
  else if h.AQ.Room<=Da h.AG q.AZ then 9
  else if 0<=q.B0/\Kk h q.B0<q.BL then 10
  else if 1000000<h.A5 then 11 else 0):=by
  intro b c;unfold TJ jK;cases b with
  |true=>rfl|false=>
   have hF:q.B0<h.AJ.length:=by
    by_cases e:(h.AJ.length:Int)<=q.B0
    .cases c e
    .omega
   simp only[BW,GZ,AB,BG,Bu,Bool.false_eq_true,if_false,ge_iff_le,gt_iff_lt,decide_eq_true_eq,Hb a,SC (show h.AG.length<2 ^ 58 by omega),AV];cases inB q.BL 1 h.AQ.BL
   .rfl
   .grind[VV,AB]
 grind[AJP,YP,BX,AV]
def AP0(p:AU)(now:Int):Bool:=p.State==2&&decide (p.DO<=now)
theorem AV0(p:AU)(now:Int):AJQ p now=some (AP0 p now):=by
 unfold AJQ jL AP0;rw[AV,AV,Ck]
def K4(h:AE)(id:Int):Int:=
 if GN h id<0 then 7
 else if (h.AG.getD (GN h id).toNat yb).State≠2 then 13
 else if AP0 (h.AG.getD (GN h id).toNat yb) h.Now=true then 14 else 0
theorem UA(a:Bt h)(id:Int):AJR h id=some (K4 h id):=by
 unfold AJR K4
 grind[Hb,AB,ZG,R6,AV0,Bu]
def IG(h:AE)(q:Bq):Int:=
 if inB q.Kind 1 7=false then 2
 else if KJ q=false then 3
 else if q.Kind=1 then YP h q
 else if q.Kind=2 then if GN h q.Id<0 then 7 else 0
 else if q.Kind=3 then if (h.AJ.length:Int)<=q.AZ then 4 else if inB q.BL 1 60=false then 5 else if Kk h q.AZ<q.BL then 12 else 0
 else if q.Kind=4\/q.Kind=5 then K4 h q.Id
 else if q.Kind=6 then if 1000000<=h.Now then 15 else 0
 else if q.Kind=7 then if h.AQ.C7<=q.Id then 16 else if h.BD.getD q.Id.toNat 0<0/\h.BF.length=0 then 17 else 0
 else 0
def verdict(h:AE)(q:Bq):Int:=if DC h=true then IG h q else 1
def Hc(y:Bt h)(q:Bq):TK h q=some (verdict h q):=by
 unfold TK verdict;rw[Gp y,AB,BG,Bu];by_cases j:DC h=true
 .rw[AW j,AW j];unfold IG;rw[GZ,AB,BG,Bu];cases inB q.Kind 1 7
  .rfl
  .simp only[if_true,Dd,if_false];rw[oA,AB,BG,Bu];cases e:KJ q
   .rfl
   .simp only[if_true,Dd,if_false,Bu,beq_iff_eq,AV];by_cases g:q.Kind=1
    .rw[AW g,AW g,zF y,AB]
    .rw[AT g,AT g];by_cases E:q.Kind=2
     .rw[AW E,AW E,Hb y,AB];simp only[decide_eq_true_eq];split<;>rfl
     .rw[AT E,AT E];by_cases B:q.Kind=3
      .rw[AW B,AW B];have X:0<=q.AZ:=by
        unfold KJ at e;rw[AT g,ifN,AW B]at e;simp only[AF,RW,B9]at e;exact e.1.1
       simp only[ge_iff_le,decide_eq_true_eq,GZ,AB,A8];by_cases a:(h.AJ.length:Int)<=q.AZ
       .rw[AW a,AW a]
       .rw[AT a,AT a];cases inB q.BL 1 60
        .rfl
        .simp only[Dd,if_false];rw[VV X (by omega),AB];by_cases S:Kk h q.AZ<q.BL<;>simp[S]<;>rfl
      .rw[AT B,AT B];unfold jM;by_cases c:q.Kind=4\/q.Kind=5
       .rw[AW c];rcases c with c|c
        .simp only[c,if_true,beq_self_eq_true,BQ,UA y,AB]
        .simp only[c,if_true,beq_self_eq_true,BQ,UA y,AB];rfl
       .have I:q.Kind≠4:=λh=>c (.inl h)
        have J:q.Kind≠5:=λh=>c (.inr h)
        rw[AT c,AT I];have L:(q.Kind==5)=false:=by simpa using J
        rw[L,BW]
        try simp only[Bu,beq_iff_eq,AV,ge_iff_le,decide_eq_true_eq]
        by_cases G:q.Kind=6
        .rw[AW G,AW G];split<;>rfl
        .rw[AT G,AT G];by_cases H:q.Kind=7
         .rw[AW H,AW H];have hR:=Ns j;have hi:0<=q.Id:=by
           unfold KJ at e;rw[AT g,ifP]at e;simp only[AF,RW,B9]at e;exact e.1.1
          by_cases a:h.AQ.C7<=q.Id
          .rw[AW a,AW a]
          .rw[AT a,AT a];have ⟨n,Y⟩:=Ai hi;have hl:n<h.BD.length:=by have:=hR.Oi;omega
           rw[Y,BM hl,AB,Ag,BC,AR hl,DH];unfold jN QV;simp only[Bu,AV,beq_iff_eq];by_cases O:h.BD[n]<0<;>by_cases Q:h.BF.length=0<;>simp[O,Q]
         .rw[AT H,AT H];rfl
 .rw[AT j,AT j]
def Q5(l:List Int)(k:Int):List Int:=if l.any (λy=>y==k)=true then l else l++[k]
theorem Jq(hl:l.length<=1048576)(k:Int):XG l k=some (Q5 l k):=by
 grind[lim,XG,Q5,CD,WG,AB,Bu]
def cbn(h:AE)(k:Int):Ah:=h.AJ.getD k.toNat AAE
def Cv(h:AE)(k:Int)(c:Ah):AE:=⟨h.AQ,h.Now,h.A5,h.AG,h.AJ.set k.toNat c,h.BF,h.BD⟩
theorem Vd{k:Int}(a:0<=k)(c:k<h.AJ.length):cbn h k∈h.AJ:=by
 grind[cbn,List.getElem?_eq_getElem,List.getElem_mem]
def dC(e:Bt h)(a:0<=p.AZ)(c:p.AZ<h.AJ.length) :
 bc h p=some (Cv h p.AZ ⟨(cbn h p.AZ).AX,put ltE (FL h.AQ p h.Now).1 (cbn h p.AZ).Row,(cbn h p.AZ).B6⟩):=by
 have hlim:=Acx;have j:=e.Ds;have g:=(e.ES _ (Vd a c)).1;unfold bc;rw[Yu (by omega),AB,F4 a c,AB,AB];show bd (AFV (cbn h p.AZ).Row _) _=_;rw[oC (by omega),AB,AB,AB];rfl
def Yw(g:Bt h)(a:0<=p.AZ)(c:p.AZ<h.AJ.length) :
 i7 h p=some (Cv h p.AZ ⟨(l8 (cbn h p.AZ).AX p.BL 1 (-1) 0 0).1,(cbn h p.AZ).Row,(U4 (cbn h p.AZ).B6 ⟨p.DO,p.Id⟩).1⟩):=by
 have e:=(g.ES _ (Vd a c)).2;unfold i7;rw[F4 a c,AB,AB,nz,AB];show bd (rJ (cbn h p.AZ).B6 _) _=_;rw[VT e,AB,AB,AB,CD ⟨rfl,⟨by omega,by omega⟩,trivial⟩];rfl
def gone(h:AE)(p:AU):AE:=
 let h':AE:=⟨h.AQ,h.Now,h.A5,h.AG.eraseP (λx=>x.Id==p.Id),h.AJ,h.BF,h.BD⟩
 if 0<=p.B0 then Cv h' p.B0 ⟨(l8 (cbn h p.B0).AX p.BL 0 0 0 (-1)).1,(cbn h p.B0).Row,(cbn h p.B0).B6⟩ else h'
def Ny(e:Bt h)(c:p.B0<h.AJ.length):VB h p=some (gone h p):=by
 unfold VB jP gone;rw[pK e.CR,AB,BX];by_cases a:0<=p.B0
 .rw[AW a,AW a,F4 a c,AB,AB,dR,AB,AB,AB,AV];rfl
 .rw[AT a,AT a,AV]
def TW(h:AE)(k n:Int):AE:=
 let h':=Cv h k ⟨(l8 (cbn h k).AX n 1 0 (-1) 0).1,(cbn h k).Row,(cbn h k).B6⟩
 ⟨h'.AQ,h'.Now,h'.A5,h'.AG,h'.AJ,Q5 h.BF k,h'.BD⟩
theorem Yx(e:Bt h){k:Int}(a:0<=k)(c:k<h.AJ.length)(n:Int):rQ h k n=some (TW h k n):=by
 unfold rQ TW;rw[F4 a c,AB,AB,n7,AB,AB,AB,Jq e.todo,AB];rfl
def LP(a b:AU):Bool:=decide (a.Id<b.Id)
def Lb(l:List AU)(p:AU):List AU:=
 if 0<=atF (λx:AU=>x.Id==p.Id) l 0 then l.set (atF (λx:AU=>x.Id==p.Id) l 0).toNat p else put LP p l
theorem P3{l:List AU}(hl:l.length<=1048576)(p:AU):ie l p=some (Lb l p):=by
 have hlim:=Acx;unfold ie Lb;rw[WE hl,AB,CD (by omega),BX,Be];split
 .grind[atF,AU,Jk,BM,AB]
 .rename_i c;have a:∀i:Nat,i<=l.length->ig l p i=some (l.take i++p::l.drop i):=by
   grind[ig,Co,LF,LG,LH,LI,Kj,LJ,LK,Gq,Y8,Int.toNat_natCast,List.length_take,CD,List.length_cons,List.length_nil,List.length_append,List.length_drop]
  refine Tz (lt:=LP) some (by omega) ?_ ?_
  .intro L i h;unfold ij XF;rw[CF h,BQ,BM h,AB,AV,AV,a i (by omega)];rfl
  .intro L;unfold ij XF;rw[C2,BW,AV,BW,AV,a _ (Ab _)];simp
def E2(r:AY)(p:AU)(now:Int):AU×Bool:=
 if D3 r p now=true/\p.State=2/\w64 (p.Du+1)<r.Cl then (⟨p.Id,p.AZ,p.B0,p.BL,p.DS,p.Since,p.A5,1,w64 (now+r.Rest),w64 (p.Du+1)⟩,true) else (yb,false)
theorem AEu(e:r.AX.length<2 ^ 62)(p:AU)(now:Int):ACK r p now=some (E2 r p now):=by
 unfold ACK XS E2;rw[Nw e,AB];simp only[AV,BG,Bu,ge_iff_le,decide_eq_true_eq,bne_iff_ne,ne_eq];cases D3 r p now
 .rfl
 .by_cases a:p.State=2
  .by_cases c:r.Cl<=w64 (p.Du+1)
   .have:¬w64 (p.Du+1)<r.Cl:=by omega
    simp[a,c,this];rfl
   grind
  .simp[a];rfl
structure WR(n:Nat)(c:Ah):Prop where
 row:c.Row.length<=n
 VX:c.B6.Aw.length<=1048576
 pins:c.B6.Aw.flatten.length<=n
structure Sm(n:Nat)(h:AE):Prop where
 Ds:h.AQ.AX.length<=1048576
 CR:h.AG.length<=n
 Dz:h.AJ.length<=1048576
 ES:∀c∈h.AJ,WR n c
 todo:h.BF.length<=n
 F9:h.BD.length<=1048576
def WR.mono(h:WR n c)(a:n<=m):WR m c:=⟨Av h.row a,h.VX,Av h.pins a⟩
def Sm.mono(a:Sm n h)(e:n<=m):Sm m h:=
 ⟨a.Ds,Av a.CR e,a.Dz,λc g=>(a.ES c g).mono e,Av a.todo e,a.F9⟩
def Sm.fit(a:Sm n h)(e:n<=1048576):Bt h:=
 ⟨a.Ds,Av a.CR e,a.Dz,λc g=>⟨Av (a.ES c g).row e,(a.ES c g).VX,Av (a.ES c g).pins e⟩,Av a.todo e,a.F9⟩
def Sm.cab(a:Sm n h){k:Int}(j:WR n c):Sm n (Cv h k c):=by
 refine⟨a.Ds,a.CR,by simpa[Cv] using a.Dz,?_,a.todo,a.F9⟩;intro q e;rcases Df e with g|rfl
 .exact a.ES _ g
 .exact j
def AWs(n:Nat):WR n AAE:=⟨by simp[AAE],by simp[AAE],by simp[AAE]⟩
theorem Sm.cbn{n:Nat}{h:AE}(e:Sm n h)(k:Int):WR n (cbn h k):=by
 unfold Lv.P.cbn;rw[BC];cases a:h.AJ[k.toNat]? with
 |none=>exact AWs n|some c=>exact e.ES c (List.mem_of_getElem? a)
theorem WA{α:Type}(lt:α->α->Bool)(a:α):∀l:List α,(put lt a l).length=l.length+1| []=>rfl|b::l=>by unfold put;split<;>simp[WA lt a l]
def Vk(p:α->Bool)(l:List α):(l.eraseP p).length<=l.length:=(JO).length_le
def ALr(h:WR n c)(p:Bf):(U4 c.B6 p).1.Aw.length<=1048576/\(U4 c.B6 p).1.Aw.flatten.length<=n:=by
 unfold U4;split
 .refine⟨by simpa using h.VX,?_⟩;rcases Aa (p.At.tmod 9).toNat c.B6.Aw.length with a|a
  .have e:c.B6.Aw.getD (p.At.tmod 9).toNat []=c.B6.Aw[(p.At.tmod 9).toNat]:=by rw[BC,AR a];rfl
   have g:=ADU a ((c.B6.Aw[(p.At.tmod 9).toNat]).eraseP (isP p));have j:=Vk (isP p) (c.B6.Aw[(p.At.tmod 9).toNat]);have q:=h.pins;dsimp only;rw[e];omega
  .dsimp only;rw[List.set_eq_of_length_le a];exact h.pins
 .exact⟨h.VX,h.pins⟩
def Q6(l:List Int)(k:Int):(Q5 l k).length<=l.length+1:=by unfold Q5;split<;>simp
theorem AUQ(l:List AU)(p:AU):(Lb l p).length<=l.length+1:=by
 grind[Lb,WA]
def AVl(g:Sm n h){k:Int}{l:BO}(a:WR n c):Sm (n+1) (Cv h k ⟨l,put ltE e c.Row,c.B6⟩):=by
 refine(g.mono (DT n)).cab ⟨?_,a.VX,Av a.pins (DT n)⟩;rw[WA];have:=a.row;omega
def eE(a:Sm n h)(p:AU):Sm n (gone h p):=by
 have e:Sm n ⟨h.AQ,h.Now,h.A5,h.AG.eraseP (λx=>x.Id==p.Id),h.AJ,h.BF,h.BD⟩:=
  ⟨a.Ds,Av (Vk _ _) a.CR,a.Dz,a.ES,a.todo,a.F9⟩
 unfold gone;dsimp only;split
 .have c:=a.cbn p.B0;exact e.cab ⟨c.row,c.VX,c.pins⟩
 .exact e
theorem ADZ(g:Sm n h)(k m:Int):Sm (n+1) (TW h k m):=by
 have e:=g.cbn k;have a:=(g.cab (k:=k) (c:=⟨(l8 (Lv.P.cbn h k).AX m 1 0 (-1) 0).1,(Lv.P.cbn h k).Row,(Lv.P.cbn h k).B6⟩) ⟨e.row,e.VX,e.pins⟩).mono (DT n);unfold TW;exact⟨a.Ds,a.CR,a.Dz,a.ES,Av (Q6 _ _) (by have:=g.todo;omega),a.F9⟩
def dropped(h:AE)(p:AU):AE:=Cv h p.AZ ⟨(l8 (cbn h p.AZ).AX p.BL 1 (-1) 0 0).1,(cbn h p.AZ).Row,(U4 (cbn h p.AZ).B6 ⟨p.DO,p.Id⟩).1⟩
def OY(c:Sm n h)(p:AU):Sm n (dropped h p):=by
 have a:=c.cbn p.AZ;have e:=ALr a ⟨p.DO,p.Id⟩;exact c.cab ⟨a.row,e.1,e.2⟩
def O4(h:AE)(l:List AU):AE:=⟨h.AQ,h.Now,h.A5,l,h.AJ,h.BF,h.BD⟩
def HL(h:AE)(p:AU):AE:=Cv h p.AZ ⟨(cbn h p.AZ).AX,put ltE (FL h.AQ p h.Now).1 (cbn h p.AZ).Row,(cbn h p.AZ).B6⟩
def Uz(c:Sm n h)(p:AU):Sm (n+1) (O4 h (Lb h.AG p)):=by
 have a:=c.mono (DT n);exact⟨a.Ds,Av (AUQ _ _) (by have:=c.CR;omega),a.Dz,a.ES,a.todo,a.F9⟩
def I9(h:AE)(p:AU):AE:=
 if (E2 h.AQ p h.Now).2=true then HL (O4 (dropped h p) (Lb h.AG (E2 h.AQ p h.Now).1)) (E2 h.AQ p h.Now).1 else gone (dropped h p) p
theorem bt(h:(E2 r p now).2=true):(E2 r p now).1.AZ=p.AZ:=by
 grind[E2]
def AP6(a:Sm n h)(p:AU):Sm (n+2) (I9 h p):=by
 unfold I9;split
 .exact AVl (Uz (OY a p) _) ((Uz (OY a p) _).cbn _)
 .exact(eE (OY a p) p).mono (by omega)
def VW(G:n+2<=1048576)(c:Sm n h)(e:0<=p.AZ)(g:p.AZ<h.AJ.length)(y:p.B0<h.AJ.length):rR h p=some (I9 h p):=by
 unfold rR;rw[Yw (c.fit (by omega)) e g,AB];have q:=OY c p;have H:=c.Ds;show bd (ACK h.AQ p h.Now) _=_;rw[AEu (by omega),AB,BG,Bu];unfold I9;have a:(dropped h p).AJ.length=h.AJ.length:=by simp[dropped,Cv]
 split
 .rename_i B;have j:=bt B;rw[P3 (by have:=c.CR;show h.AG.length<=_;omega),AB];have E:=Uz q (E2 h.AQ p h.Now).1;show bd (bc (O4 (dropped h p) (Lb h.AG (E2 h.AQ p h.Now).1)) _) _=_;rw[dC (h:=O4 (dropped h p) (Lb h.AG (E2 h.AQ p h.Now).1)) (E.fit (by omega)) (by rw[j];exact e) (by rw[j];show p.AZ<((dropped h p).AJ.length:Int);rw[a];exact g),AB];rfl
 .show bd (VB (dropped h p) p) _=_;rw[Ny (q.fit (by omega)) (by rw[a];exact y),AB]
def Eb(h:AE)(l:List Int):AE:=⟨h.AQ,h.Now,h.A5,h.AG,h.AJ,l,h.BD⟩
def IH(h:AE)(id cb fr sz tr:Int):AU:=⟨id,cb,fr,sz,tr,h.Now,h.A5,1,0,0⟩
def Jh(h:AE)(k n:Int):AE:=Cv h k ⟨(l8 (cbn h k).AX n 0 0 0 1).1,(cbn h k).Row,(cbn h k).B6⟩
def NG(h:AE)(id cb fr sz tr:Int):AE:=
 let p:=IH h id cb fr sz tr
 let x:=HL ⟨h.AQ,h.Now,w64 (h.A5+1),Lb h.AG p,h.AJ,h.BF,h.BD⟩ p
 let y:=if 0<=fr then Jh x fr sz else x
 Eb y (Q5 y.BF cb)
def cM(h:AE)(id cb fr sz tr:Int):AE×Int:=
 if verdict h ⟨1,id,cb,fr,sz,tr⟩≠0 then (h,verdict h ⟨1,id,cb,fr,sz,tr⟩) else (NG h id cb fr sz tr,0)
def AMj(e:Bt h)(a:0<=p.AZ)(c:p.AZ<h.AJ.length):bc h p=some (HL h p):=dC e a c
theorem Y9{cb fr:Int}(a:verdict h ⟨1,id,cb,fr,sz,tr⟩=0):DC h=true/\0<=cb/\cb<h.AJ.length/\fr<h.AJ.length:=by
 grind[verdict,IG,KJ,RW,B9,YP]
def AOW(Q:n+3<=1048576)(G:Sm n h)(id cb fr sz tr:Int):AJF h id cb fr sz tr=some (cM h id cb fr sz tr)/\Sm (n+3) (cM h id cb fr sz tr).1:=by
 have E:=G.fit (by omega);unfold AJF iz cM;rw[IC E,AB,Hc E,AB];simp only[Bu,bne_iff_ne,ne_eq,BX,ge_iff_le,AV];by_cases y:verdict h ⟨1,id,cb,fr,sz,tr⟩=0
 .have ⟨O,I,J,L⟩:=Y9 y;rw[AT (not_not_intro y),AT (not_not_intro y),P3 E.CR,AB];have g:Sm (n+1) (⟨h.AQ,h.Now,w64 (h.A5+1),Lb h.AG (IH h id cb fr sz tr),h.AJ,h.BF,h.BD⟩:AE):=by
   have j:=Uz G (IH h id cb fr sz tr);exact⟨j.Ds,j.CR,j.Dz,j.ES,j.todo,j.F9⟩
  have e:Sm (n+2) (HL ⟨h.AQ,h.Now,w64 (h.A5+1),Lb h.AG (IH h id cb fr sz tr),h.AJ,h.BF,h.BD⟩ (IH h id cb fr sz tr)):=AVl g (g.cbn _);show bd (bc ⟨h.AQ,h.Now,w64 (h.A5+1),Lb h.AG (IH h id cb fr sz tr),h.AJ,h.BF,h.BD⟩ (IH h id cb fr sz tr)) _=_/\_;rw[AMj (g.fit (by omega)) (show 0<=(IH h id cb fr sz tr).AZ from I) (show (IH h id cb fr sz tr).AZ<_ from J),AB];simp only[decide_eq_true_eq];unfold NG;dsimp only;generalize hX:HL ⟨h.AQ,h.Now,w64 (h.A5+1),Lb h.AG (IH h id cb fr sz tr),h.AJ,h.BF,h.BD⟩ (IH h id cb fr sz tr)=X at e ⊢;have q:X.AJ.length=h.AJ.length:=by rw[<-hX];simp[HL,Cv]
  by_cases c:0<=fr
  .rw[AW c,AW c,F4 c (by rw[q];exact L),AB,AB,pM,AB,AB,AB,Jq (by have:=e.todo;show X.BF.length<=_;omega),AB];have B:=e.cbn fr;have H:Sm (n+2) (Jh X fr sz):=e.cab ⟨B.row,B.VX,B.pins⟩;have a:=H.mono (DT (n+2));exact⟨rfl,a.Ds,a.CR,a.Dz,a.ES,Av (Q6 _ _) (by have:=H.todo;omega),a.F9⟩
  .rw[AT c,AT c];show bd (XG X.BF cb) _=_/\_;rw[Jq (by have:=e.todo;omega),AB];have a:=e.mono (DT (n+2));exact⟨rfl,a.Ds,a.CR,a.Dz,a.ES,Av (Q6 _ _) (by have:=e.todo;omega),a.F9⟩
 .rw[AW y,AW y];exact⟨rfl,G.mono (by omega)⟩
def par(h:AE)(id:Int):AU:=h.AG.getD (GN h id).toNat yb
theorem nX(e:DC h=true)(c:0<=GN h id):0<=(par h id).AZ/\(par h id).AZ<h.AJ.length /\ -1<=(par h id).B0/\(par h id).B0<h.AJ.length/\(par h id).Id=id:=by
 have hR:=Ns e;have ⟨y,B⟩:=R6 c;have hi:(GN h id).toNat<h.AG.length:=by omega
 have a:=hR.par _ hi;have j:par h id=h.AG[(GN h id).toNat]:=by unfold par;rw[BC,AR hi];rfl
 rw[<-j]at a;unfold D3 at a;have E:=hR.Ds;simp only[AF,B9]at a;have ⟨_,_,_,g,q,_⟩:=a;rw[A7]at g q;have:=hR.Dz
 grind
def bu(h:AE)(k n:Int):AE×Int:=
 if verdict h ⟨3,0,k,0,n,0⟩≠0 then (h,verdict h ⟨3,0,k,0,n,0⟩) else (TW h k n,0)
theorem SN{k n:Int}(a:verdict h ⟨3,0,k,0,n,0⟩=0):DC h=true/\0<=k/\k<h.AJ.length:=by
 grind[verdict,IG,KJ,RW,B9]
theorem nq(y:m+1<=1048576)(e:Sm m h)(k n:Int):AJV h k n=some (bu h k n)/\Sm (m+1) (bu h k n).1:=by
 have c:=e.fit (by omega);unfold AJV bu;rw[IC c,AB,Hc c,AB];simp only[Bu,bne_iff_ne,ne_eq];by_cases a:verdict h ⟨3,0,k,0,n,0⟩=0
 .have ⟨q,g,j⟩:=SN a
  grind[Yx,AB,ADZ]
 .rw[AW a,AW a];exact⟨rfl,e.mono (by omega)⟩
theorem Sb(a:verdict h ⟨5,id,0,0,0,0⟩=0):DC h=true/\0<=GN h id:=by
 grind[verdict,IG,K4,GN]
def ADH(h:AE)(id:Int):AE:=Eb (I9 h (par h id)) (Q5 (I9 h (par h id)).BF (par h id).AZ)
def Mr(h:AE)(id:Int):AE×Int:=
 if verdict h ⟨5,id,0,0,0,0⟩≠0 then (h,verdict h ⟨5,id,0,0,0,0⟩) else (ADH h id,0)
def yz(I:n+3<=1048576)(g:Sm n h)(id:Int):AJY h id=some (Mr h id)/\Sm (n+3) (Mr h id).1:=by
 have j:=g.fit (by omega);unfold AJY Mr;rw[IC j,AB,Hc j,AB];simp only[Bu,bne_iff_ne,ne_eq];by_cases e:verdict h ⟨5,id,0,0,0,0⟩=0
 .have ⟨E,p0⟩:=Sb e;have ⟨q,y,H,B,G⟩:=nX E p0;rw[AT (not_not_intro e),AT (not_not_intro e),Hb j];simp only[AB,ZG p0 (R6 p0).1,Co,LF,LG,LH,LI,Kj,LJ,LK,Gq];have a:=AP6 g (par h id);show bd (rR h (par h id)) _=_/\_;rw[VW (by omega) g q y B,AB,Jq (by have:=a.todo;omega),AB];have c:=a.mono (DT (n+2));exact⟨rfl,c.Ds,c.CR,c.Dz,c.ES,Av (Q6 _ _) (by have:=a.todo;omega),c.F9⟩
 .rw[AW e,AW e];exact⟨rfl,g.mono (by omega)⟩
theorem UF(a:verdict h ⟨2,id,0,0,0,0⟩=0):DC h=true/\0<=GN h id:=by
 grind[verdict,IG]
def UD(h:AE)(k id:Int):AE:=Cv h k ⟨(cbn h k).AX,(cbn h k).Row.eraseP (λx=>x.Id==id),(cbn h k).B6⟩
def cancelled(h:AE)(id:Int):AE:=
 let p:=par h id
 if p.State=2 then gone (Eb (dropped h p) (Q5 (dropped h p).BF p.AZ)) p else gone (UD h p.AZ id) p
def PG(h:AE)(id:Int):AE×Int:=
 if verdict h ⟨2,id,0,0,0,0⟩≠0 then (h,verdict h ⟨2,id,0,0,0,0⟩) else (cancelled h id,0)
def AG5(e:Bt h)(a:0<=p.AZ)(c:p.AZ<h.AJ.length):i7 h p=some (dropped h p):=Yw e a c
def AEs(O:n+1<=1048576)(c:Sm n h)(id:Int):AJT h id=some (PG h id)/\Sm (n+1) (PG h id).1:=by
 have j:=c.fit (by omega);unfold AJT PG;rw[IC j,AB,Hc j,AB];simp only[Bu,bne_iff_ne,ne_eq];by_cases e:verdict h ⟨2,id,0,0,0,0⟩=0
 .have ⟨J,p0⟩:=UF e;have ⟨y,B,Q,G,L⟩:=nX J p0;rw[AT (not_not_intro e),AT (not_not_intro e),Hb j];simp only[AB,ZG p0 (R6 p0).1,Co,LF,LG,LH,LI,Kj,LJ,LK,Gq,beq_iff_eq,AV];show (if (par h id).State=2 then bd (i7 h (par h id)) _ else bd (at? h.AJ (par h id).AZ) _)=_/\_;unfold cancelled;dsimp only;by_cases q:(par h id).State=2
  .rw[AW q,AW q,AG5 j y B,AB];have E:=OY c (par h id);rw[Jq (by have:=E.todo;omega),AB];have a:=E.mono (DT n);have H:Sm (n+1) (Eb (dropped h (par h id)) (Q5 (dropped h (par h id)).BF (par h id).AZ)):=
    ⟨a.Ds,a.CR,a.Dz,a.ES,Av (Q6 _ _) (by have:=E.todo;omega),a.F9⟩
   unfold XR;show bd (VB (Eb (dropped h (par h id)) (Q5 (dropped h (par h id)).BF (par h id).AZ)) (par h id)) _=_/\_;rw[Ny (H.fit O) (by (have:(Eb (dropped h (par h id)) (Q5 (dropped h (par h id)).BF (par h id).AZ)).AJ.length=h.AJ.length:=by simp[Eb,dropped,Cv]);rw[this];exact G),AB];exact⟨rfl,eE H _⟩
  .rw[AT q,AT q];simp only[show at? h.AJ (par h id).AZ=some (cbn h (par h id).AZ) from F4 y B,show at? h.AJ (h.AG.getD (GN h id).toNat yb).AZ=some (cbn h (par h id).AZ) from F4 y B,AB];have g:=c.cbn (par h id).AZ;show bd (jA (cbn h (par h id).AZ).Row id) _=_/\_;rw[VR (by have:=g.row;omega),AB];have I:Sm n (UD h (par h id).AZ id):=c.cab ⟨Av (Vk _ _) g.row,g.VX,g.pins⟩;unfold XR;show bd (VB (UD h (par h id).AZ id) (par h id)) _=_/\_;rw[Ny (I.fit (by omega)) (by (have:(UD h (par h id).AZ id).AJ.length=h.AJ.length:=by simp[UD,Cv]);rw[this];exact G),AB];exact⟨rfl,(eE I _).mono (DT n)⟩
 .rw[AW e,AW e];exact⟨rfl,c.mono (by omega)⟩
theorem UE(a:verdict h ⟨4,id,0,0,0,0⟩=0):DC h=true/\0<=GN h id:=by
 grind[verdict,IG,K4,GN]
def P1(h:AE)(p:AU):AE:=Cv h p.AZ ⟨(l8 (cbn h p.AZ).AX p.BL 0 (-1) 1 0).1,(cbn h p.AZ).Row,(U4 (cbn h p.AZ).B6 ⟨p.DO,p.Id⟩).1⟩
def AX3(c:Sm n h)(p:AU):Sm n (P1 h p):=by
 have a:=c.cbn p.AZ;have e:=ALr a ⟨p.DO,p.Id⟩;exact c.cab ⟨a.row,e.1,e.2⟩
def accepted(h:AE)(id:Int):AE:=
 let p:=par h id
 if 0<=p.B0 then TW (gone (P1 h p) p) p.B0 p.BL else gone (P1 h p) p
def O9(h:AE)(id:Int):AE×Int:=
 if verdict h ⟨4,id,0,0,0,0⟩≠0 then (h,verdict h ⟨4,id,0,0,0,0⟩) else (accepted h id,0)
theorem ADc(h:AE)(p:AU):(gone h p).AJ.length=h.AJ.length:=by grind[gone,Cv]
def AEq(L:n+1<=1048576)(j:Sm n h)(id:Int):AJX h id=some (O9 h id)/\Sm (n+1) (O9 h id).1:=by
 have e:=j.fit (by omega);unfold AJX O9;rw[IC e,AB,Hc e,AB];simp only[Bu,bne_iff_ne,ne_eq];by_cases c:verdict h ⟨4,id,0,0,0,0⟩=0
 .have ⟨G,p0⟩:=UE c;have ⟨q,y,J,B,I⟩:=nX G p0;rw[AT (not_not_intro c),AT (not_not_intro c),Hb e];have H:=(e.ES _ (Vd q y)).2;have E:=AX3 j (par h id);have hl:(P1 h (par h id)).AJ.length=h.AJ.length:=by simp[P1,Cv]
  simp only[AB,ZG p0 (R6 p0).1,show at? h.AJ (h.AG.getD (GN h id).toNat yb).AZ=some (cbn h (par h id).AZ) from F4 q y,Co,LF,LG,LH,LI,Kj,LJ,LK,Gq,n9,VT H,AV,BX,ge_iff_le,decide_eq_true_eq];rw[CD ⟨rfl,⟨by omega,by omega⟩,trivial⟩];show bd (VB (P1 h (par h id)) (par h id)) _=_/\_;rw[Ny (E.fit (by omega)) (by rw[hl];exact B),AB];have g:=eE E (par h id);unfold accepted jQ;dsimp only;by_cases a:0<=(par h id).B0
  .rw[AW a];show (if 0<=(par h id).B0 then bd (rQ (gone (P1 h (par h id)) (par h id)) (par h id).B0 (par h id).BL) _ else _)=_/\_;rw[AW a,Yx (g.fit (by omega)) a (by rw[ADc,hl];exact B),AB];exact⟨rfl,ADZ g _ _⟩
  .rw[AT a];show (if 0<=(par h id).B0 then _ else _)=_/\_;rw[AT a];exact⟨rfl,g.mono (DT n)⟩
 .rw[AW c,AW c];exact⟨rfl,j.mono (by omega)⟩
def Ly(h:AE)(i:Nat):AE:=
 let x:=Cv h i ⟨(cbn h i).AX,EB h.AQ h.AG i h.Now,(cbn h i).B6⟩
 if 0<Da h.AG i then Eb x (Q5 h.BF i) else x
def LX:Nat->Nat->AE->AE|0,_,h=>h|k+1,i,h=>LX k (i+1) (Ly h i)
theorem tW(h:AE)(i:Nat):(Ly h i).AJ.length=h.AJ.length:=by grind[Ly,Cv,Eb]
def oO(c:Sm n h)(i:Nat):Sm (n+1) (Ly h i):=by
 have e:=c.cbn (i:Int);have g:(EB h.AQ h.AG (i:Int) h.Now).length<=n:=by
  unfold EB;rw[Jn];exact Av (CZ _ _) c.CR
 have j:Sm n (Cv h i ⟨(cbn h i).AX,EB h.AQ h.AG i h.Now,(cbn h i).B6⟩):=c.cab ⟨g,e.VX,e.pins⟩;have a:=j.mono (DT n);unfold Ly;dsimp only;split
 .exact⟨a.Ds,a.CR,a.Dz,a.ES,Av (Q6 _ _) (by have:=c.todo;omega),a.F9⟩
 .exact a
def AWE(B:Sm n h)(H:n+h.AJ.length<=1048576):A9 XT big (0,h)=some (LX h.AJ.length 0 h,0):=by
 generalize a:h.AJ.length=len at *;refine(DK (F:=XT) (n:=len) (λi (v:AE)=>((i:Int),v)) (λi v=>Sm (n+i) v/\v.AJ.length=len) (λi v=>some (LX (len-i) i v,0)) (by omega) ?_ (v:=h) ⟨B,a⟩).trans (by rw[Nat.sub_zero]);intro L i v ⟨y,c⟩ hi G;have j:=y.fit (by omega);unfold XT;dsimp only;rw[c];rcases Aa i len with g|g
 .have I:=j.Ds;have E:=j.CR;rw[CF g,BQ,SG (by omega) E,AB,F4 (by omega) (by omega),AB,AB,SC (by omega),AB];have e:LX (len-i) i v=LX (len-(i+1)) (i+1) (Ly v i):=by rw[show len-i=(len-(i+1))+1 by omega];rfl
  rw[e];have q:=G (Ly v i) ⟨by have:=oO y i;rw[CV]at this;exact this,by rw[tW];exact c⟩ g;rw[<-q];unfold jR Ly;simp only[BX,gt_iff_lt,AV,Bv g (show len<2 ^ 63 by omega),Ag,Jq j.todo,AB];split<;>rfl
 .have:i=len:=by omega
  subst this;rw[C2,BW,AV,Nat.sub_self];rfl
def zN(h:AE):AE:=LX h.AJ.length 0 ⟨h.AQ,w64 (h.Now+1),h.A5,h.AG,h.AJ,h.BF,h.BD⟩
def dG(h:AE):AE×Int:=
 if verdict h ⟨6,0,0,0,0,0⟩≠0 then (h,verdict h ⟨6,0,0,0,0,0⟩) else (zN h,0)
def AE4:∀(k i:Nat) {n:Nat} {h:AE},Sm n h->Sm (n+k) (LX k i h)|0,_,_,_,a=>a|k+1,i,n,h,a=>by have:=AE4 k (i+1) (oO a i);rw[CV,Nat.add_comm 1 k]at this;exact this
def AOb(a:Sm n h)(j:n+h.AJ.length<=1048576):AJZ h=some (dG h)/\Sm (n+h.AJ.length) (dG h).1:=by
 have g:=a.fit (by omega);unfold AJZ dG;rw[IC g,AB,Hc g,AB];simp only[Bu,bne_iff_ne,ne_eq];have e:Sm n ⟨h.AQ,w64 (h.Now+1),h.A5,h.AG,h.AJ,h.BF,h.BD⟩:=⟨a.Ds,a.CR,a.Dz,a.ES,a.todo,a.F9⟩;by_cases c:verdict h ⟨6,0,0,0,0,0⟩=0
 .rw[AT (not_not_intro c),AT (not_not_intro c),AWE e j];exact⟨rfl,AE4 _ _ e⟩
 .rw[AW c,AW c];exact⟨rfl,a.mono (by omega)⟩
def lL(w:A3)(now:Int):List Int:=(E8 w).filterMap λp=>if p.At<=now then some p.Id else none
theorem y9(a:Dc w)(now:Int):ACL w now=some ((E8 w).filter λp=>decide (p.At<=now)):=by
 have hlim:=Acx;have hl:=Ih a;unfold ACL;rw[M3 a,AB,collect (l:=E8 w) (λp=>if p.At<=now then some p else none) some hl ?_ ?_]
 .congr 1;generalize E8 w=l
  induction l with
  |nil=>rfl|cons p l c=>
   grind
 .grind[jV,jU,BM,AB,BX,AV,CD]
 grind[jV,ACN,BW,AV]
theorem AEw(g:Bt h){k:Int}(a:0<=k)(c:k<h.AJ.length):AJa h k=some (lL (cbn h k).B6 h.Now):=by
 have hlim:=Acx;have e:=(g.ES _ (Vd a c)).2;have hl:=Ih e;unfold AJa;rw[F4 a c,AB];show bd (ACL (cbn h k).B6 h.Now) _=_;rw[y9 e,AB];generalize hD:(E8 (cbn h k).B6).filter (λp=>decide (p.At<=h.Now))=D;have hDl:D.length<=1048576:=by rw[<-hD];exact Av (List.length_filter_le _ _) hl
 rw[collect (l:=D) (λp=>some p.Id) some hDl ?_ ?_]
 .unfold lL;rw[<-hD];congr 1;generalize E8 (cbn h k).B6=l
  induction l with
  |nil=>rfl|cons p l j=>
   grind
 .grind[jW,BQ,BM,AB,CD]
 grind[jW,ACO,BW,AV]
section
variable{α:Type}{lt:α->α->Bool}
def Yc(a:α):∀l:List α,(put lt a l).Perm (a::l)
 | []=>.refl _|z::l=>by
  unfold put;split
  .exact((Yc a l).cons z).trans (.swap a z l)
  .exact .refl _
def OC:∀l:List α,(Dg lt l).Perm l| []=>.refl _|a::l=>(Yc a _).trans ((OC l).cons a)
def SQ(lt:α->α->Bool)(l:List α):Prop:=l.Pairwise λa b=>lt a b=true\/lt b a=true
def SQ.perm{a c:List α}(h:SQ lt a)(e:a.Perm c):SQ lt c:=(e.pairwise_iff (λh=>h.symm)).1 h
theorem M0(h:Swo lt){l:List α}(q:SQ lt l):(Dg lt l).Pairwise λa b=>lt a b=true:=by
 have c:(Dg lt l).Pairwise λa b=>lt b a=false:=Uf h l
 have e:SQ lt (Dg lt l):=q.perm (OC (lt:=lt) l).symm;exact(c.and e).imp λ{a b} ⟨g,j⟩=>j.resolve_right (by rw[g];simp)
theorem tP(h:Swo lt):∀{g j:List α},(g.Pairwise λa b=>lt a b=true)->(j.Pairwise λa b=>lt a b=true)->g.Perm j->g=j
 | [],j,_,_,c=>c.nil_eq|a::g,[],_,_,c=>by cases c.eq_nil
 |a::g,b::j,q,y,c=>by
  rw[Bn]at q y;by_cases e:a=b
  .subst e;rw[tP h q.2 y.2 c.cons_inv]
  .have E:a∈j:=(Ae.1 (c.subset (BK ..))).resolve_left e;have B:b∈g:=(Ae.1 (c.symm.subset (BK ..))).resolve_left (Ne.symm e);have:=h.uB _ _ (q.1 b B)
   grind
def AX4(h:Swo lt){a c:List α}(e:SQ lt a)(g:a.Perm c):Dg lt a=Dg lt c:=
 tP h (M0 h e) (M0 h (e.perm g)) ((OC a).trans (g.trans (OC c).symm))
end
structure Uni(ps:List AU):Prop where
 id:ps.Pairwise λp q=>p.Id≠q.Id
 turn:ps.Pairwise λp q=>p.A5≠q.A5
def Uni.perm(h:Uni a)(c:a.Perm b):Uni b:=⟨(c.pairwise_iff (λh=>Ne.symm h)).1 h.id,(c.pairwise_iff (λh=>Ne.symm h)).1 h.turn⟩
def Uni.tail(h:Uni (p::b)):Uni b:=⟨(Bn.1 h.id).2,(Bn.1 h.turn).2⟩
theorem RS(a:D3 r p now=true)(c:p.State=1):FL r p now=(⟨JA r p now,p.A5,p.Id,p.BL⟩,true):=by
 grind[FL]
theorem bq(h:¬(D3 r p now=true/\p.State=1)):FL r p now=(⟨0,0,0,0⟩,false):=by
 unfold FL;rw[AT h]
theorem Jo{c:Int}(h:MQ r c now p=some e):e=⟨JA r p now,p.A5,p.Id,p.BL⟩/\D3 r p now=true/\p.State=1/\p.AZ=c:=by
 grind[MQ,RS,bq]
theorem AM0(a:D3 r p now=true)(e:p.State=1)(c:Int):MQ r c now p=if p.AZ=c then some ⟨JA r p now,p.A5,p.Id,p.BL⟩ else none:=by
 unfold MQ;rw[RS a e];simp
theorem AUU{c:Int}(a:p.State≠1):MQ r c now p=none:=by
 grind[MQ,bq]
theorem Un{c:Int}{e:Bf}(h:NL c p=some e):e=⟨p.DO,p.Id⟩/\p.State=2/\p.AZ=c:=by
 grind[NL]
theorem AO0(h:Uni ps)(r:AY)(c now:Int):SQ ltE (ps.filterMap (MQ r c now)):=by
 unfold SQ;rw[Ee];refine h.turn.imp ?_;intro p q j a e b g;obtain⟨rfl,_⟩:=Jo e;obtain⟨rfl,_⟩:=Jo g
 grind[Uh]
def AEM(h:Uni ps)(a:ps.Perm qs)(r:AY)(c now:Int):EB r ps c now=EB r qs c now:=AX4 eH (AO0 h r c now) (a.filterMap _)
def V9(a:ps.Perm qs)(c:Int):Gt ps c=Gt qs c:=mS FV eJ (a.filterMap _)
theorem T0(r:AY)(p:AU)(ps:List AU)(c now:Int):EB r (p::ps) c now=match MQ r c now p with|some e=>put ltE e (EB r ps c now)|none=>EB r ps c now:=by
 unfold EB;rw[JP];cases MQ r c now p<;>rfl
theorem V8(p:AU)(ps:List AU)(c:Int):Gt (p::ps) c=match NL c p with|some e=>put ltP e (Gt ps c)|none=>Gt ps c:=by
 unfold Gt;rw[JP];cases NL c p<;>rfl
def Ob(f:AU->Int)(g:Int->AU->Int)(a:∀n p,g n p=n+f p):∀(l:List AU) (n:Int),l.foldl g n=n+l.foldl g 0| [],n=>by simp|p::l,n=>by rw[Bw,Bw,Ob f g a l,Ob f g a l (g 0 p),a,a];omega
def YC(c:Int)(p:AU):Int:=if ((p.State==2)&&((p.AZ==c)&&inB p.BL 1 6))=true then p.BL else 0
def tY(c:Int)(p:AU):Int:=if ((p.B0==c)&&inB p.BL 1 6)=true then p.BL else 0
def AWw(c:Int)(p:AU):Int:=if (p.AZ==c)=true then 1 else 0
theorem AK8(c n:Int)(p:AU):VE c n p=n+YC c p:=by grind[VE,YC]
theorem ALm(c n:Int)(p:AU):VY c n p=n+tY c p:=by grind[VY,tY]
theorem AAN(c n:Int)(p:AU):M8 c n p=n+AWw c p:=by grind[M8,AWw]
def Od(p:AU)(ps:List AU)(c:Int):Ja (p::ps) c=YC c p+Ja ps c:=by
 unfold Ja;rw[Bw,Ob _ _ (AK8 c),AK8];omega
def WL(p:AU)(ps:List AU)(c:Int):J2 (p::ps) c=tY c p+J2 ps c:=by
 unfold J2;rw[Bw,Ob _ _ (ALm c),ALm];omega
def bP(p:AU)(ps:List AU)(c:Int):Da (p::ps) c=AWw c p+Da ps c:=by
 unfold Da;rw[Bw,Ob _ _ (AAN c),AAN];omega
def oH{F:List AU->Int}{f:AU->Int}(hF:∀p l,F (p::l)=f p+F l){a b:List AU}(g:a.Perm b):F a=F b:=by
 induction g with
 |nil=>rfl|cons x _ j=>rw[hF,hF,j]|swap x y l=>rw[hF,hF,hF,hF];omega|trans _ _ c e=>exact c.trans e
def AGv(e:a.Perm b)(c:Int):Ja a c=Ja b c:=oH (F:=λl=>Ja l c) (λp l=>Od p l c) e
def AH4(e:a.Perm b)(c:Int):J2 a c=J2 b c:=oH (F:=λl=>J2 l c) (λp l=>WL p l c) e
def Ss(e:a.Perm b)(c:Int):Da a c=Da b c:=oH (F:=λl=>Da l c) (λp l=>bP p l c) e
def AH0{F:List AU->Int}{f:AU->Int}(c:F []=0)(hF:∀p l,F (p::l)=f p+F l)(a:∀p,0<=f p):∀l,0<=F l| []=>by omega|p::l=>by have:=a p;have:=AH0 c hF a l;rw[hF];omega
theorem ATV(c:Int)(p:AU):0<=YC c p:=by
 grind[YC,B9]
theorem AWF(c:Int)(p:AU):0<=tY c p:=by
 grind[tY,B9]
def ADd(l:List AU)(c:Int):0<=Ja l c:=AH0 (F:=λl=>Ja l c) rfl (λp l=>Od p l c) (ATV c) l
def AE5(l:List AU)(c:Int):0<=J2 l c:=AH0 (F:=λl=>J2 l c) rfl (λp l=>WL p l c) (AWF c) l
def wOf(S:List Bf):A3:=⟨(List.range 9).map λi=>S.filter (Ga i)⟩
def eR(S:List Bf):(wOf S).Aw.length=9:=by simp[wOf]
theorem zY(S:List Bf)(h:i<(wOf S).Aw.length):(wOf S).Aw[i]=S.filter (Ga i):=by simp[wOf]
theorem AWQ(S:List Bf)(h:i<9):(wOf S).Aw.getD i []=S.filter (Ga i):=by
 rw[BC,AR (by rw[eR];exact h),DH,zY]
theorem zZ(a:k<9)(h:∀i,i<9->i≠k->T.filter (Ga i)=S.filter (Ga i)):(⟨(wOf S).Aw.set k (T.filter (Ga k))⟩:A3)=wOf T:=by
 unfold wOf;congr 1;apply H7
 .simp
 grind
theorem oX:∀{S:List Bf},(∀p∈S,1<=p.At)->(wOf S).Aw.flatten.Perm S
 | [],_=>by simp[wOf]|p::S,h=>by
  have ⟨k,c,e⟩:=dH (h p (BK ..));have E:=oX (S:=S) λq B=>h q (Af _ B)
  have a:Ga k p=true:=Kx.2 e;have g:=zZ (S:=S) (T:=p::S) c (by
   intro i hi y;have:Ga i p=false:=by
    grind[Ga]
   simp[GC,this])
  rw[<-g];have hl:k<(wOf S).Aw.length:=by rw[eR];exact c
  have j:(p::S).filter (Ga k)=p::(wOf S).Aw[k]:=by rw[zY];simp[GC,a]
  rw[j];dsimp only;rw[Fg,AW hl,G5,Fx,Bm];refine(Kr).trans (List.Perm.cons p ?_);rw[<-Fx,<-G5,<-Dt hl,Cb];exact E
structure P8(S:List Bf):Prop where
 few:S.length<=10
 pins:∀p∈S,R4 p=true
 ids:S.Pairwise λa b=>a.Id≠b.Id
 srt:S.Pairwise λa b=>ltP a b=true
theorem oY(h:P8 S):Ph (wOf S):=by
 have c:=oX λp c=>(Nq (h.pins p c)).1.1
 refine⟨eR S,by rw[c.length_eq];exact h.few,λp e=>h.pins p (c.subset e),(c.pairwise_iff (λh=>Ne.symm h)).2 h.ids,?_,?_⟩
 .grind[wOf,Ga]
 .intro i hi k j;have g:(S.filter (Ga i)).Pairwise λa b=>ltP a b=true:=h.srt.filter _
  grind[zY,List.pairwise_iff_getElem]
def AFB(h:P8 S):E8 (wOf S)=S:=by
 have a:=oX λp a=>(Nq (h.pins p a)).1.1
 unfold E8;rw[AW (EU.2 (oY h)),mS FV eJ a,Qg FV h.srt]
def AaB(a:HO w=true):w=wOf (E8 w):=by
 unfold E8;rw[AW a];exact bF (EU.1 a)
structure WQ(r:AY)(ps:List AU)(now:Int)(i:Nat)(c:Ah):Prop where
 row:c.Row=EB r ps i now
 HD:c.B6=wOf (Gt ps i)
 total:c.AX.Total=r.AX.getD i 0
 held:c.AX.FQ=Ja ps i
 Jh:c.AX.Gb=J2 ps i
 led:Ep c.AX=true
 room:Da ps i<=r.Room
structure RG(r:AY)(now turn:Int)(ps:List AU):Prop where
 few:ps.length<=40
 par:∀p∈ps,D3 r p now=true/\p.A5<turn
 ids:ps.Pairwise λp q=>p.Id<q.Id
 turns:ps.Pairwise λp q=>I2 p q=false
structure RH(h:AE):Prop where
 rules:Dp h.AQ=true
 now:0<=h.Now/\h.Now<=1000000
 turn:1<=h.A5/\h.A5<=1000001
 Dz:h.AJ.length=h.AQ.AX.length
 Ig:RG h.AQ h.Now h.A5 h.AG
 cab:∀i (hi:i<h.AJ.length),WQ h.AQ h.AG h.Now i h.AJ[i]
 todo:Hq h.BF h.AJ.length=true
 F9:J0 h.BD h.AJ.length=true
 Oi:(h.BD.length:Int)=h.AQ.C7
theorem AFS(p q:AU):I2 p q=I2 q p:=by
 grind[I2]
theorem APD{q:AU}(h:I2 p q=false):p.A5≠q.A5:=by
 grind[I2]
def RG.uni(h:RG r now turn ps):Uni ps:=⟨h.ids.imp λh=>by omega,h.turns.imp λh=>APD h⟩
theorem mc:Swo LP:=⟨λa b h=>by unfold LP at *;simp only[decide_eq_true_eq,decide_eq_false_iff_not]at *;omega,λa b c h=>by unfold LP at *;simp only[decide_eq_true_eq]at *;omega⟩
theorem cS:LQ h=true↔(∀p∈h.AG,D3 h.AQ p h.Now=true/\p.A5<h.A5)/\(h.AG.Pairwise λp q=>p.Id<q.Id)/\h.AG.Pairwise λp q=>I2 p q=false:=by
 have a:∀i (hi:i<h.AG.length),cR h i=true↔D3 h.AQ h.AG[i] h.Now=true/\h.AG[i].A5<h.A5/\(∀j (c:j<h.AG.length),j+1=i->h.AG[j].Id<h.AG[i].Id)/\∀j (c:j<i),I2 h.AG[j] h.AG[i]=false:=by
  grind[cR,Ca,J1]
 grind[LQ,J1,List.mem_iff_getElem,ON,LP,mc,List.pairwise_iff_getElem]
theorem ATu(h:D3 r p now=true):0<=JA r p now/\JA r p now<=4:=by
 have c:=FF h;have j:=CO c.1;have a:=sT r p.DS (w64 (now-p.Since));unfold JA;rw[AW h];refine⟨a,?_⟩;unfold aU;rw[A7 (n:=now-p.Since)];have e:0<=(now-p.Since).tdiv r.CK:=Int.tdiv_nonneg (by omega) (by omega);have g:(now-p.Since).tdiv r.CK<=now-p.Since:=by rw[Int.tdiv_eq_ediv_of_nonneg (by omega)];exact Int.ediv_le_self _ (by omega)
 grind[A7]
theorem On{c:Int}(h:e∈EB r ps c now):∃p∈ps,MQ r c now p=some e:=by
 grind[EB,Qh]
theorem sZ{c:Int}{e:Bf}(h:e∈Gt ps c):∃p∈ps,NL c p=some e:=by
 grind[Gt,Qh]
theorem AHd(h:Uni ps)(c now:Int):(EB r ps c now).Pairwise λa b=>a.Id≠b.Id:=by
 refine((OC _).pairwise_iff (λh=>Ne.symm h)).2 ?_;rw[Ee];refine h.id.imp ?_;intro p q e a g b j;obtain⟨rfl,_⟩:=Jo g;obtain⟨rfl,_⟩:=Jo j;exact e
def R8(r:AY)(ps:List AU)(c now:Int):((EB r ps c now).length:Int)<=Da ps c:=by
 unfold EB;rw[Jn];exact eA _ c (by intro p h;unfold MQ;rw[h,Dq];rfl) ps
def AMv(ps:List AU)(c:Int):((Gt ps c).length:Int)<=Da ps c:=by
 unfold Gt;rw[Jn];exact eA _ c (by intro p h;unfold NL;rw[h,Dq];rfl) ps
theorem AEN(B:RG r now turn ps){c:Int}(J:Da ps c<=10):LU (EB r ps c now)=true:=by
 have L:=B.uni;have hl:=R8 r ps c now;unfold LU;rw[AF,J1];refine⟨by simp;omega,?_⟩;intro k g;unfold qAt;rw[Ca g];have ⟨p,E,q⟩:=On (Ak g);have ⟨j,e,H,I⟩:=Jo q;have y:=ATu e;have a:=FF e;have G:=CO a.1;simp only[AF,A8,decide_eq_false_iff_not];refine⟨?_,?_,?_⟩
 .rw[j];unfold AP5;simp only[AF,B9];omega
 .grind[Ca,EB,List.pairwise_iff_getElem,M0,eH,AO0]
 .have:atF (λx:A2=>x.Id==(EB r ps c now)[k].Id) ((EB r ps c now).take k) 0<0:=by
   rw[eu]
   grind[List.mem_iff_getElem,List.pairwise_iff_getElem,AHd]
  omega
theorem Ya(B:RG r now turn ps){c:Int}(O:Da ps c<=10):P8 (Gt ps c):=by
 have hl:=AMv ps c;have g:(ps.filterMap (NL c)).Pairwise λa b=>a.Id≠b.Id:=by
  rw[Ee];refine B.uni.id.imp ?_;intro p q j a E b G;obtain⟨rfl,_⟩:=Un E;obtain⟨rfl,_⟩:=Un G;exact j
 refine⟨by omega,?_,((OC _).pairwise_iff (λh=>Ne.symm h)).2 g,M0 FV (g.imp ?_)⟩
 .intro e H;have ⟨p,y,I⟩:=sZ H;obtain⟨rfl,J,_⟩:=Un I;have L:=FF (B.par p y).1
  grind[CO,R4,B9]
 grind[ltP]
theorem G0:DC h=true↔RH h:=by
 constructor
 .intro Y;have ⟨G,H,I,J,L,O,Q,S,X,q⟩:=Jm Y;have ⟨y,B,E⟩:=cS.1 O;refine⟨G,H,I,L,⟨J,y,B,E⟩,?_,Q,S,X⟩;intro i hi;have j:i<h.AQ.AX.length:=by omega
  have c:=J1.1 q i hi;unfold Wb at c;rw[Ca hi,Ca j]at c;unfold KX L0 at c;simp only[AF,beq_iff_eq,A8,decide_eq_false_iff_not,HR dx,HR dy]at c;have ⟨k1,⟨⟨l1,k3,k4⟩,k5,k6,k7,k8⟩,k9⟩:=c;refine⟨k5,?_,?_,k7,k8,l1,by omega⟩
  .rw[<-k6];exact AaB k4
  .rw[k1];simp[List.getD,j]
 .intro hR;unfold DC;have Z:=CO hR.rules;simp only[AF,B9,A8,decide_eq_false_iff_not,beq_iff_eq];refine⟨hR.rules,hR.now,hR.turn,by have:=hR.Ig.few;omega,by rw[hR.Dz],cS.2 ⟨hR.Ig.par,hR.Ig.ids,hR.Ig.turns⟩,⟨hR.todo,hR.F9,hR.Oi⟩,?_⟩;unfold Nd;rw[J1];intro i hi;have j:i<h.AQ.AX.length:=by have:=hR.Dz;omega
  have a:=hR.cab i hi;have g:Da h.AG i<=10:=by have:=a.room;omega
  have e:=Ya hR.Ig g;unfold Wb KX L0;rw[Ca hi,Ca j];simp only[AF,beq_iff_eq,A8,decide_eq_false_iff_not,HR dx,HR dy];refine⟨?_,⟨⟨a.led,?_,?_⟩,a.row,?_,a.held,a.Jh⟩,by have:=a.room;omega⟩
  .rw[a.total];simp[List.getD,j]
  .rw[a.row];exact AEN hR.Ig g
  .rw[a.HD];exact EU.2 (oY e)
  .rw[a.HD];exact AFB e
theorem GH{l:BO}:Ep l=true↔(1<=l.Total/\l.Total<=60)/\(0<=l.D7/\l.D7<=l.Total)/\(0<=l.FQ/\l.FQ<=l.Total)/\(0<=l.GB/\l.GB<=l.Total)/\l.D7+l.FQ+l.GB=l.Total/\0<=l.Gb/\l.Gb<=l.GB:=by
 grind[Ep,B9,A7]
theorem sO{l:BO}(hl:Ep l=true){n a b c d:Int}(J:0<=n/\n<=60)(e:a = -1\/a=0\/a=1)(g:b = -1\/b=0\/b=1)(j:c = -1\/c=0\/c=1)(q:d = -1\/d=0\/d=1)
 (H:Ep ⟨l.Total,l.D7+a*n,l.FQ+b*n,l.GB+c*n,l.Gb+d*n⟩=true):l8 l n a b c d=(⟨l.Total,l.D7+a*n,l.FQ+b*n,l.GB+c*n,l.Gb+d*n⟩,true):=by
 have I:=GH.1 hl;have w:∀a x:Int,(a = -1\/a=0\/a=1)->0<=x->x<=60->w64 (x+w64 (a*n))=x+a*n:=by
  grind[A7]
 have y:=w a l.D7 e (by omega) (by omega);have B:=w b l.FQ g (by omega) (by omega);have E:=w c l.GB j (by omega) (by omega);have G:=w d l.Gb q (by omega) (by omega);unfold l8
 grind[B9]
section
variable{α:Type}{lt:α->α->Bool}
theorem QY{p:α->Bool}{a:α}(c:p a=true):∀{l:List α},(∀x∈l,p x=false)->(put lt a l).eraseP p=l
 | [],_=>by simp[put,c]|z::l,h=>by
  unfold put;split
  .rw[H5 (by rw[h z (BK ..)];simp),QY c λx e=>h x (Af _ e)]
  .rw[H6 c]
def ALX(a:α):∀l:List α,l.Sublist (put lt a l)
 | []=>List.nil_sublist _|z::l=>by
  unfold put;split
  .exact(ALX a l).cons_cons z
  .exact List.sublist_cons_self ..
theorem AFZ{p:α->Bool}{l:List α}{k:Nat}(a:k<l.length)(e:l.eraseP p=l.take k++l.drop (k+1)):l.Perm (l[k]::l.eraseP p):=by
 grind[Dt,List.take_append_drop,List.perm_middle]
def set_perm{p:α->Bool}{l:List α}{k:Nat}(c:k<l.length)(e:l.eraseP p=l.take k++l.drop (k+1))(a:α):(l.set k a).Perm (a::l.eraseP p):=by
 rw[e,Fg,AW c];exact Kr
end
def P8.sub(h:P8 T)(a:S.Sublist T):P8 S:=⟨Av a.length_le h.few,λp c=>h.pins p (a.subset c),h.ids.sublist a,h.srt.sublist a⟩
def AXR{p x:Bf}:isP p x=true↔x=p:=by
 unfold isP;have ⟨a,b⟩:=p;have ⟨c,d⟩:=x;simp
theorem nG{S:List Bf}{p:Bf}(h:P8 (put ltP p S)):R4 p=true/\P8 S/\∀x∈S,isP p x=false:=by
 have c:=h.sub (ALX p S);refine⟨h.pins p (Uq.2 (.inl rfl)),c,λx e=>?_⟩;cases a:isP p x with
 |false=>rfl|true=>
  rw[AXR]at a;subst a;have:=((Yc (lt:=ltP) x S).pairwise_iff (λh=>Ne.symm h)).1 h.ids
  grind[List.pairwise_cons]
theorem ALq{p:Bf}(h:P8 (put ltP p S))(c:k<9)(e:p.At.tmod 9=(k:Int)):(put ltP p S).filter (Ga k)=put ltP p (S.filter (Ga k))/\∀i,i<9->i≠k->(put ltP p S).filter (Ga i)=S.filter (Ga i):=by
 have g:Srt ltP S:=(nG h).2.1.srt.imp λ{a b} h=>FV.uB _ _ h
 grind[Vm,FV,Kx]
theorem AYC{p:Bf}(h:P8 (put ltP p S)):U4 (wOf (put ltP p S)) p=(wOf S,true):=by
 grind[nG,Nq,ALq,isP,U4,EU,oY,AWQ,QY,zZ,Uq]
theorem AYD{p:Bf}(h:P8 (put ltP p S)):RB (wOf S) p=(wOf (put ltP p S),true):=by
 have ⟨a,y,B⟩:=nG h;have g:=(Nq a).1.1;have ⟨k,c,e⟩:=dH g;have ⟨j,q⟩:=ALq h c e
 grind[ZC,wOf,Int.toNat_natCast,zZ,RB,EU,oY]
section
variable{p:AU}{ps:List AU}(i:Int)
theorem Iz(h:1<=p.BL/\p.BL<=6):J2 (p::ps) i=(if p.B0=i then p.BL else 0)+J2 ps i:=by
 rw[WL];unfold tY
 grind[inB]
theorem IV:Da (p::ps) i=(if p.AZ=i then 1 else 0)+Da ps i:=by
 rw[bP];unfold AWw;simp
def N7(a:p.State≠2):Ja (p::ps) i=Ja ps i:=by
 rw[Od];unfold YC;simp[a]
theorem aC(a:p.State=2)(h:1<=p.BL/\p.BL<=6):Ja (p::ps) i=(if p.AZ=i then p.BL else 0)+Ja ps i:=by
 rw[Od];unfold YC
 grind[inB]
def OB(a:p.State≠2):Gt (p::ps) i=Gt ps i:=by
 rw[V8];unfold NL;simp[a]
theorem Um(a:p.State=2):Gt (p::ps) i=if p.AZ=i then put ltP ⟨p.DO,p.Id⟩ (Gt ps i) else Gt ps i:=by
 grind[V8,NL]
def WB(r:AY)(now:Int)(a:p.State≠1):EB r (p::ps) i now=EB r ps i now:=by
 rw[T0,AUU a]
theorem Km{r:AY}{now:Int}(a:D3 r p now=true)(c:p.State=1):EB r (p::ps) i now=if p.AZ=i then put ltE ⟨JA r p now,p.A5,p.Id,p.BL⟩ (EB r ps i now) else EB r ps i now:=by
 grind[T0,AM0]
end
section
variable{r:AY}{now turn:Int}{ps:List AU}
def RG.sub{qs:List AU}(h:RG r now turn ps)(a:qs.Sublist ps):RG r now turn qs:=
 ⟨Av a.length_le h.few,λp c=>h.par p (a.subset c),h.ids.sublist a,h.turns.sublist a⟩
theorem RG.set(h:RG r now turn ps){k:Nat}(E:k<ps.length){p:AU}(G:p.Id=ps[k].Id)(y:p.A5=ps[k].A5)(H:p.Since=ps[k].Since)(B:D3 r p now=true):RG r now turn (ps.set k p):=by
 have hT:=(h.par _ (Ak E)).2;have g:∀i (hi:i<(ps.set k p).length),(ps.set k p)[i].Id=(ps[i]'(by simpa using hi)).Id/\(ps.set k p)[i].A5=(ps[i]'(by simpa using hi)).A5/\(ps.set k p)[i].Since=(ps[i]'(by simpa using hi)).Since:=by
  grind
 refine⟨by simpa using h.few,?_,?_,?_⟩
 .intro q e;rcases Df e with e|rfl
  .exact h.par q e
  .exact⟨B,by rw[y];exact hT⟩
 .rw[Cj];intro i j hi c a;rw[(g i hi).1,(g j c).1];exact Cj.1 h.ids i j _ _ a
 .rw[Cj];intro i j hi c a;have:=Cj.1 h.turns i j (by simpa using hi) (by simpa using c) a
  grind[I2]
end
theorem AZt(a:0<=GN h id):∃k,∃c:k<h.AG.length,GN h id=(k:Int)/\par h id=h.AG[k]/\(par h id).Id=id/\h.AG.eraseP (λx=>x.Id==id)=h.AG.take k++h.AG.drop (k+1):=by
 grind[GN,Jk,par]
structure Sd(r:AY)(ps qs:List AU)(now:Int)(i:Nat)(c:Ah):Prop where
 row:c.Row=EB r ps i now
 HD:c.B6=wOf (Gt ps i)
 total:c.AX.Total=r.AX.getD i 0
 held:c.AX.FQ=Ja ps i
 Jh:c.AX.Gb=J2 qs i
 led:Ep c.AX=true
 room:Da ps i<=r.Room
def Sd.full(h:Sd r ps ps now i c):WQ r ps now i c:=⟨h.row,h.HD,h.total,h.held,h.Jh,h.led,h.room⟩
def WQ.half(h:WQ r ps now i c):Sd r ps ps now i c:=⟨h.row,h.HD,h.total,h.held,h.Jh,h.led,h.room⟩
def Sd.perm{e:List AU}(h:Sd r ps qs now i c)(q:Uni ps)(g:ps.Perm a)(j:qs.Perm e):Sd r a e now i c:=
 ⟨by rw[h.row,AEM q g],by rw[h.HD,V9 g],h.total,by rw[h.held,AGv g],by rw[h.Jh,AH4 j],h.led,by rw[<-Ss g];exact h.room⟩
theorem I6{k:Int}(a:0<=k)(e:k<h.AJ.length)(g:0<=j):cbn (Cv h k c) j=if j=k then c else cbn h j:=by
 grind[cbn,Cv]
def AIZ(hi:i<h.AJ.length):cbn h i=h.AJ[i]:=by
 unfold cbn;rw[Ag,BC,AR hi];rfl
def RH.cb(hR:RH h)(hi:i<h.AJ.length):WQ h.AQ h.AG h.Now i (cbn h i):=by
 rw[AIZ hi];exact hR.cab i hi
def RH.mk'(rules:Dp h.AQ=true)(now:0<=h.Now/\h.Now<=1000000)(turn:1<=h.A5/\h.A5<=1000001)(Dz:h.AJ.length=h.AQ.AX.length)(Ig:RG h.AQ h.Now h.A5 h.AG)
 (cab:∀i:Nat,i<h.AJ.length->WQ h.AQ h.AG h.Now i (cbn h i)) (todo:Hq h.BF h.AJ.length=true) (F9:J0 h.BD h.AJ.length=true) (Oi:(h.BD.length:Int)=h.AQ.C7):RH h:=
 ⟨rules,now,turn,Dz,Ig,λi hi=>by rw[<-AIZ hi];exact cab i hi,todo,F9,Oi⟩
structure One(h:AE)(id:Int)(p:AU)(rest:List AU):Prop where
 perm:h.AG.Perm (p::rest)
 sub:rest.Sublist h.AG
 okp:D3 h.AQ p h.Now=true
 pid:p.Id=id
 mem:p∈h.AG
 ne:∀q∈rest,q.Id≠id
 set:∀q:AU,q.Id=id->∃l,Lb h.AG q=l/\l.Perm (q::rest)/\(q.A5=p.A5->q.Since=p.Since->D3 h.AQ q h.Now=true->RG h.AQ h.Now h.A5 l)
 cut:h.AG.eraseP (λx=>x.Id==id)=rest
theorem RH.one(hR:RH h)(G:0<=GN h id):One h id (par h id) (h.AG.eraseP λx=>x.Id==id):=by
 have ⟨k,c,e,a,g,j⟩:=AZt G;have y:h.AG[k]∈h.AG:=Ak c;have B:h.AG.Perm (par h id::h.AG.eraseP λx=>x.Id==id):=by rw[a];exact AFZ c j
 refine⟨B,JO,by rw[a];exact(hR.Ig.par _ y).1,g,by rw[a];exact y,?_,?_,rfl⟩
 .have:=(hR.Ig.uni.perm B).id
  grind[List.pairwise_cons]
 .intro q E;refine⟨h.AG.set k q,?_,set_perm c j q,?_⟩
  .unfold Lb;unfold GN at e;rw[E,e,ifP,Ag]
  .intro H I J;refine hR.Ig.set c ?_ ?_ ?_ J
   .rw[<-a,g,E]
   .rw[<-a,H]
   .rw[<-a,I]
theorem One.size(ho:One h id p rest):(1<=p.BL/\p.BL<=6)/\(0<=p.AZ/\p.AZ<h.AQ.AX.length)/\(-1<=p.B0/\p.B0<h.AQ.AX.length)/\p.B0≠p.AZ:=by
 have a:=FF ho.okp;have c:=CO a.1;omega
def AOn(h:AE)(p:AU)(rest:List AU)(g:AE):Prop:=∀i:Nat,i<h.AJ.length->Sd h.AQ rest (p::rest) h.Now i (cbn g i)
theorem sg(G:1<=p.BL/\p.BL<=6)(q:p.AZ≠i)(h:WQ r (p::rest) now i c):Sd r rest (p::rest) now i c:=by
 have y:MQ r i now p=none:=by
  grind[MQ]
 have B:NL i p=none:=by
  grind[NL]
 have E:YC i p=0:=by unfold YC;simp[q]
 have a:=h.row;have e:=h.HD;have g:=h.held;have j:=h.room;rw[T0,y]at a;rw[V8,B]at e;rw[Od,E,GU]at g;rw[IV,AT q,GU]at j;exact⟨a,e,h.total,g,h.Jh,h.led,j⟩
section
variable{h:AE}(hR:RH h){id:Int}{p:AU}{rest:List AU}(ho:One h id p rest)
include hR ho
theorem One.cab{i:Nat}(hi:i<h.AJ.length):WQ h.AQ (p::rest) h.Now i (cbn h i):=((hR.cb hi).half.perm hR.Ig.uni ho.perm ho.perm).full
theorem One.uni:Uni (p::rest):=hR.Ig.uni.perm ho.perm
theorem One.room{i:Nat}(hi:i<h.AJ.length):Da (p::rest) i<=10:=by
 have:=(ho.cab hR hi).room;have:=CO hR.rules;omega
theorem One.pins{i:Nat}(hi:i<h.AJ.length):P8 (Gt (p::rest) i):=by
 rw[<-V9 ho.perm];exact Ya hR.Ig (by rw[Ss ho.perm];exact ho.room hR hi)
theorem Rx(q:p.State=2){a c:Int}(O:a=0/\c=1\/a=1/\c=0) :
 AOn h p rest (Cv h p.AZ ⟨(l8 (cbn h p.AZ).AX p.BL a (-1) c 0).1,(cbn h p.AZ).Row,(U4 (cbn h p.AZ).B6 ⟨p.DO,p.Id⟩).1⟩):=by
 intro i hi;have ⟨G,L,z3,z4⟩:=ho.size;have Q:=hR.Dz;rw[I6 L.1 (by omega) (by omega)];by_cases e:(i:Int)=p.AZ
 .rw[AW e,<-e];have g:=ho.cab hR hi;have j:=ho.pins hR hi;have y:=g.row;have B:=g.HD;have I:=g.held;have J:=g.room;have E:=g.led;rw[WB _ _ _ (by omega)]at y;rw[Um _ q,AW e.symm]at B j;rw[aC _ q G,AW e.symm]at I;rw[IV,AW e.symm]at J;have H:=ADd rest i;have kl:=GH.1 E;have hl:Ep ⟨(cbn h i).AX.Total,(cbn h i).AX.D7+a*p.BL,(cbn h i).AX.FQ+(-1)*p.BL,(cbn h i).AX.GB+c*p.BL,(cbn h i).AX.Gb+0*p.BL⟩=true:=by
   grind[GH]
  rw[sO E (by omega) (by omega) (by omega) (by omega) (by omega) hl,B,AYC j];refine⟨y,rfl,g.total,?_,?_,hl,?_⟩
  .dsimp only;omega
  .dsimp only;rw[g.Jh];omega
  .omega
 .rw[AT e];exact sg G (Ne.symm e) (ho.cab hR hi)
theorem AH6(E:p.State=1):AOn h p rest (UD h p.AZ id):=by
 intro i hi;have ⟨I,J,z3,z4⟩:=ho.size;have L:=hR.Dz;unfold UD;rw[I6 J.1 (by omega) (by omega)];by_cases e:(i:Int)=p.AZ
 .rw[AW e,<-e];have a:=ho.cab hR hi;have c:=a.row;have g:=a.HD;have j:=a.held;have H:=a.room;rw[Km _ ho.okp E,AW e.symm]at c;rw[OB _ (by omega)]at g;rw[N7 _ (by omega)]at j;rw[IV,AW e.symm]at H;refine⟨?_,g,a.total,j,a.Jh,a.led,by omega⟩;dsimp only;rw[c];refine QY (by simpa using ho.pid) λx G=>?_
  have ⟨q,B,y⟩:=On G;obtain⟨rfl,_⟩:=Jo y;simpa using ho.ne q B
 .rw[AT e];exact sg I (Ne.symm e) (ho.cab hR hi)
theorem eD{g:AE}(L:AOn h p rest g)(c:g.AQ=h.AQ)(B:g.Now=h.Now)(G:g.A5=h.A5)(S:g.AG=h.AG)(j:g.AJ.length=h.AJ.length)
 (J:Hq g.BF h.AJ.length=true) (H:g.BD=h.BD):RH (gone g p):=by
 have ⟨Q,Y,z3,z4⟩:=ho.size;have O:=hR.Dz;have E:g.AG.eraseP (λx=>x.Id==p.Id)=rest:=by rw[S,ho.pid,ho.cut]
 have q:RG h.AQ h.Now h.A5 rest:=hR.Ig.sub ho.sub;unfold gone;dsimp only;rw[E];split
 .rename_i I;refine RH.mk' (by show Dp g.AQ=true;rw[c];exact hR.rules) (by show 0<=g.Now/\_;rw[B];exact hR.now) (by show 1<=g.A5/\_;rw[G];exact hR.turn) (by simp[Cv,j,c,O]) (by show RG g.AQ g.Now g.A5 rest;rw[c,B,G];exact q) ?_
   (by simpa[Cv,j] using J) (by simpa[Cv,j,H] using hR.F9) (by show (g.BD.length:Int)=g.AQ.C7;rw[H,c];exact hR.Oi)
  intro i hi;have y:i<h.AJ.length:=by simpa[Cv,j] using hi
  rw[I6 I (by show p.B0<(g.AJ.length:Int);omega) (by omega)];show WQ g.AQ rest g.Now i _;rw[c,B];have a:=L i y;have k:=a.Jh;rw[Iz _ Q]at k;by_cases e:(i:Int)=p.B0
  .rw[AW e,<-e];rw[AW e.symm]at k;have kl:=GH.1 a.led;have X:=AE5 rest i;have hl:Ep ⟨(cbn g i).AX.Total,(cbn g i).AX.D7+0*p.BL,(cbn g i).AX.FQ+0*p.BL,(cbn g i).AX.GB+0*p.BL,(cbn g i).AX.Gb+(-1)*p.BL⟩=true:=by
    rw[GH];dsimp only;omega
   rw[sO a.led (by omega) (by omega) (by omega) (by omega) (by omega) hl];refine⟨a.row,a.HD,a.total,?_,?_,hl,a.room⟩
   .dsimp only;rw[a.held];omega
   .dsimp only;omega
  .rw[AT e];rw[AT (Ne.symm e),GU]at k;exact⟨a.row,a.HD,a.total,a.held,k,a.led,a.room⟩
 .rename_i I;refine RH.mk' (by show Dp g.AQ=true;rw[c];exact hR.rules) (by show 0<=g.Now/\_;rw[B];exact hR.now) (by show 1<=g.A5/\_;rw[G];exact hR.turn) (by show g.AJ.length=g.AQ.AX.length;rw[j,c,O]) (by show RG g.AQ g.Now g.A5 rest;rw[c,B,G];exact q) ?_
   (by show Hq g.BF g.AJ.length=true;rw[j];exact J) (by show J0 g.BD g.AJ.length=true;rw[j,H];exact hR.F9) (by show (g.BD.length:Int)=g.AQ.C7;rw[H,c];exact hR.Oi)
  intro i hi;have y:i<h.AJ.length:=by rw[<-j];exact hi
  show WQ g.AQ rest g.Now i (cbn g i);rw[c,B];have a:=L i y;have k:=a.Jh;rw[Iz _ Q,ifN,GU]at k;exact⟨a.row,a.HD,a.total,a.held,k,a.led,a.room⟩
theorem Xv(hs:p.State=2):RH (I9 h p):=by
 have ⟨Q,z2,z3,z4⟩:=ho.size;have Z:=hR.Dz;have L:AOn h p rest (dropped h p):=Rx hR ho hs (.inr ⟨rfl,rfl⟩);have c:(dropped h p).AJ.length=h.AJ.length:=by simp[dropped,Cv]
 unfold I9;split
 .rename_i Y;have j:=Y;unfold E2 at j;by_cases E:D3 h.AQ p h.Now=true/\p.State=2/\w64 (p.Du+1)<h.AQ.Cl
  .have hk:=FF ho.okp;have hr:=CO hR.rules;have hq:(E2 h.AQ p h.Now).1=⟨p.Id,p.AZ,p.B0,p.BL,p.DS,p.Since,p.A5,1,w64 (h.Now+h.AQ.Rest),w64 (p.Du+1)⟩:=by unfold E2;rw[AW E]
   rw[hq];have ew:w64 (h.Now+h.AQ.Rest)=h.Now+h.AQ.Rest:=A7 (by omega) (by omega);have ea:w64 (p.Du+1)=p.Du+1:=A7 (by omega) (by omega);rw[ew,ea];have G:=E.2.2;rw[ea]at G;have g:D3 h.AQ ⟨p.Id,p.AZ,p.B0,p.BL,p.DS,p.Since,p.A5,1,h.Now+h.AQ.Rest,p.Du+1⟩ h.Now=true:=by
    grind[D3,B9,A7]
   have ⟨l,S,B,X⟩:=ho.set ⟨p.Id,p.AZ,p.B0,p.BL,p.DS,p.Since,p.A5,1,h.Now+h.AQ.Rest,p.Du+1⟩ ho.pid;rw[S];have J:=X rfl rfl g;generalize hQ:(⟨p.Id,p.AZ,p.B0,p.BL,p.DS,p.Since,p.A5,1,h.Now+h.AQ.Rest,p.Du+1⟩:AU)=q at *;have q1:q.AZ=p.AZ:=by rw[<-hQ]
   have q2:q.B0=p.B0:=by rw[<-hQ]
   have O:q.BL=p.BL:=by rw[<-hQ]
   have H:q.State=1:=by rw[<-hQ]
   unfold HL;refine RH.mk' hR.rules hR.now hR.turn (by show ((dropped h p).AJ.set _ _).length=_;rw[BP,c];exact Z) J ?_ (by show Hq h.BF (((dropped h p).AJ.set _ _).length:Nat)=true;rw[BP,c];exact hR.todo) (by show J0 h.BD (((dropped h p).AJ.set _ _).length:Nat)=true;rw[BP,c];exact hR.F9) hR.Oi;intro i hi;have y:i<h.AJ.length:=by have:i<((dropped h p).AJ.set q.AZ.toNat _).length:=hi;rw[BP,c]at this;exact this
   rw[I6 (by rw[q1];exact z2.1) (by rw[q1];show p.AZ<((dropped h p).AJ.length:Int);omega) (by omega)];show WQ h.AQ l h.Now i (if _ then (⟨(cbn (dropped h p) q.AZ).AX,put ltE (FL h.AQ q h.Now).1 (cbn (dropped h p) q.AZ).Row,(cbn (dropped h p) q.AZ).B6⟩:Ah) else cbn (dropped h p) i);have a:=L i y;have hu:=J.uni;have t1:J2 (p::rest) i=J2 (q::rest) i:=by rw[Iz _ Q,Iz _ (by rw[O];exact Q),q2,O]
   have I:Da (q::rest) i<=h.AQ.Room:=by
    have:=(ho.cab hR y).room;rw[IV]at this ⊢;rw[q1];exact this
   refine Sd.full (Sd.perm ?_ (hu.perm B) B.symm B.symm);by_cases e:(i:Int)=q.AZ
   .rw[AW e,<-e];refine⟨?_,?_,a.total,?_,by dsimp only;rw[a.Jh,t1],a.led,I⟩
    .dsimp only;rw[Km _ g H,AW e.symm,RS g H,a.row]
    .dsimp only;rw[OB _ (by omega),a.HD]
    .dsimp only;rw[N7 _ (by omega),a.held]
   .rw[AT e];refine⟨?_,?_,a.total,?_,by rw[a.Jh,t1],a.led,I⟩
    .rw[Km _ g H,AT (Ne.symm e),a.row]
    .rw[OB _ (by omega),a.HD]
    .rw[N7 _ (by omega),a.held]
  .rw[AT E]at j;cases j
 .exact eD hR ho L rfl rfl rfl rfl c hR.todo rfl
end
def cW(p:AU)(now:Int):Bool:=p.State==1&&decide (p.DO>now)
def nj(h:AE):List Int:=h.AG.filterMap λp=>if cW p h.Now=true then some p.Id else none
def ADS(free:Int)(skip:List Int)(e:A2):Bool:=decide (e.BL<=free)&&!(skip.any λy=>y==e.Id)
def VM(h:AE)(k:Int):Int:=atF (ADS (cbn h k).AX.D7 (nj h)) (cbn h k).Row 0
def AXD:A2:=⟨0,0,0,0⟩
def FE(h:AE)(k:Int):Int:=if VM h k<0 then 0 else ((cbn h k).Row.getD (VM h k).toNat AXD).Id
theorem zB(p:AU)(now:Int):AJc p now=some (cW p now):=by
 unfold AJc jY cW;rw[AV,AV,Ck]
theorem pJ{l:List A2}(hl:l.length<=1048576){skip:List Int}(c:skip.length<=1048576)(free:Int):AJd l free skip=some (atF (ADS free skip) l 0):=by
 unfold AJd;refine RJ (by omega) ?_ ?_
 .intro L i h;unfold ja jZ ADS;rw[CF h,BQ];simp only[BM h,AB,WG (show skip.length<2 ^ 62 by omega),AV];by_cases a:l[i].BL<=free
  .simp only[a,decide_true,BQ,Bool.true_and]
  .simp only[a,decide_false,BW,Bool.false_and]
 grind[ja,ACQ,BW,AV]
theorem uE{l:List A2}{p:A2->Bool}(a:¬atF p l 0<0):at? l (atF p l 0)=some (l.getD (atF p l 0).toNat AXD)/\∃c:(atF p l 0).toNat<l.length,p l[(atF p l 0).toNat]=true/\l.getD (atF p l 0).toNat AXD=l[(atF p l 0).toNat]:=by
 grind[Jk,BM]
theorem zG(a:Bt h){k:Int}(e:0<=k)(g:k<h.AJ.length):ACR h k=some (FE h k):=by
 have hlim:=Acx;have c:=a.CR;have q:(nj h).length<=1048576:=Av (CZ _ _) c;have j:=(a.ES _ (Vd e g)).1;unfold ACR;rw[collect (l:=h.AG) (λp=>if cW p h.Now=true then some p.Id else none) (jd h k) c ?_ ?_]
 .grind[jd,cbn,F4,AB,nj,pJ,VM,FE,BX,uE]
 .grind[je,jc,BM,AB,zB,Bu,AV,CD]
 grind[je,BW,AV]
def AZn(h:AE)(p:AU):AU:=⟨p.Id,p.AZ,p.B0,p.BL,p.DS,p.Since,p.A5,2,w64 (h.Now+h.AQ.B7),p.Du⟩
def JD(h:AE)(k id:Int):AE:=
 Cv (O4 h (Lb h.AG (AZn h (par h id)))) k ⟨(l8 (cbn h k).AX (par h id).BL (-1) 1 0 0).1,(cbn h k).Row.eraseP (λx=>x.Id==id),(RB (cbn h k).B6 ⟨w64 (h.Now+h.AQ.B7),id⟩).1⟩
theorem mw(hR:RH h)(L:k<h.AJ.length)(c:FE h k≠0):0<=GN h (FE h k)/\(par h (FE h k)).State=1/\(par h (FE h k)).AZ=k/\(par h (FE h k)).BL<=(cbn h k).AX.D7/\cW (par h (FE h k)) h.Now=false:=by
 unfold FE at c ⊢;by_cases g:VM h k<0
 .rw[AW g]at c;exact absurd rfl c
 .rw[AT g]at c ⊢;have ⟨_,hl,G,H⟩:=uE g;have I:=hR.cb L;have j:(cbn h k).Row.getD (VM h k).toNat AXD=(cbn h k).Row[(VM h k).toNat]'hl:=H;rw[j];have O:(cbn h k).Row[(VM h k).toNat]'hl∈EB h.AQ h.AG k h.Now:=by rw[<-I.row];exact Ak _
  have ⟨p,Q,J⟩:=On O;have ⟨E,S,X,Y⟩:=Jo J;have a:ADS (cbn h k).AX.D7 (nj h) ((cbn h k).Row[(VM h k).toNat]'hl)=true:=G;unfold ADS at a;rw[AF,decide_eq_true_iff]at a;generalize (cbn h k).Row[(VM h k).toNat]'hl=e at *;subst E;dsimp only at a ⊢;have y:0<=GN h p.Id:=by
   grind[GN,Jk]
  have ho:=hR.one y;have B:par h p.Id=p:=by
   rcases Ae.1 (ho.perm.subset Q) with q|q
   .exact q.symm
   .exact absurd rfl (ho.ne p q)
  rw[B]
  grind[nj]
theorem AHM(hR:RH h)(hk:k<h.AJ.length)(ho:One h id (par h id) rest)(hs:(par h id).State=1)(g:(par h id).AZ=k)(hf:(par h id).BL<=(cbn h k).AX.D7):RH (JD h k id):=by
 have ⟨H,z2,z3,z4⟩:=ho.size;have hn:=hR.Dz;have hr:=CO hR.rules;have X:=hR.now;have ew:w64 (h.Now+h.AQ.B7)=h.Now+h.AQ.B7:=A7 (by omega) (by omega);unfold JD;generalize hP:par h id=p at *;have hq:AZn h p=⟨p.Id,p.AZ,p.B0,p.BL,p.DS,p.Since,p.A5,2,h.Now+h.AQ.B7,p.Du⟩:=by unfold AZn;rw[ew]
 rw[hq,ew];have O:D3 h.AQ ⟨p.Id,p.AZ,p.B0,p.BL,p.DS,p.Since,p.A5,2,h.Now+h.AQ.B7,p.Du⟩ h.Now=true:=by
  have:=ho.okp
  grind[D3,B9]
 have ⟨l,Z,c,e3⟩:=ho.set ⟨p.Id,p.AZ,p.B0,p.BL,p.DS,p.Since,p.A5,2,h.Now+h.AQ.B7,p.Du⟩ ho.pid;rw[Z];have J:=e3 rfl rfl O;have q5:(⟨h.Now+h.AQ.B7,id⟩:Bf)=⟨(⟨p.Id,p.AZ,p.B0,p.BL,p.DS,p.Since,p.A5,2,h.Now+h.AQ.B7,p.Du⟩:AU).DO,(⟨p.Id,p.AZ,p.B0,p.BL,p.DS,p.Since,p.A5,2,h.Now+h.AQ.B7,p.Du⟩:AU).Id⟩:=by rw[<-ho.pid]
 rw[q5];generalize hQ:(⟨p.Id,p.AZ,p.B0,p.BL,p.DS,p.Since,p.A5,2,h.Now+h.AQ.B7,p.Du⟩:AU)=q at *;have q1:q.AZ=p.AZ:=by rw[<-hQ]
 have q2:q.B0=p.B0:=by rw[<-hQ]
 have B:q.BL=p.BL:=by rw[<-hQ]
 have E:q.State=2:=by rw[<-hQ]
 have hu:=J.uni;refine RH.mk' hR.rules hR.now hR.turn (by show (h.AJ.set _ _).length=_;rw[BP];exact hn) J ?_ (by show Hq h.BF ((h.AJ.set _ _).length:Nat)=true;rw[BP];exact hR.todo) (by show J0 h.BD ((h.AJ.set _ _).length:Nat)=true;rw[BP];exact hR.F9) hR.Oi;intro i hi;have L:i<h.AJ.length:=by have:i<(h.AJ.set (k:Int).toNat _).length:=hi;rw[BP]at this;exact this
 rw[I6 (by omega) (by show (k:Int)<(h.AJ.length:Int);omega) (by omega)];show WQ h.AQ l h.Now i (if (i:Int)=k then (⟨_,_,_⟩:Ah) else cbn h i);have a:=ho.cab hR L;have t1:J2 (p::rest) i=J2 (q::rest) i:=by rw[Iz _ H,Iz _ (by rw[B];exact H),q2,B]
 have S:Da (q::rest) i<=h.AQ.Room:=by
  have:=a.room;rw[IV]at this ⊢;rw[q1];exact this
 refine Sd.full (Sd.perm ?_ (hu.perm c) c.symm c.symm);have G:=a.row;have Q:=a.HD;have Y:=a.held;rw[Km _ ho.okp hs]at G;rw[OB _ (by omega)]at Q;rw[N7 _ (by omega)]at Y;by_cases e:(i:Int)=k
 .obtain rfl:i=k:=by omega
  rw[AW rfl];have j:P8 (Gt (q::rest) (i:Int)):=by
   rw[<-V9 c];exact Ya J (by rw[Ss c];omega)
  rw[Um _ E,AW (by rw[q1,g])]at j;have kl:=GH.1 a.led;have hnn:=ADd rest i;have hl:Ep ⟨(cbn h i).AX.Total,(cbn h i).AX.D7+(-1)*p.BL,(cbn h i).AX.FQ+1*p.BL,(cbn h i).AX.GB+0*p.BL,(cbn h i).AX.Gb+0*p.BL⟩=true:=by
   rw[GH];dsimp only;omega
  rw[sO a.led (by omega) (by omega) (by omega) (by omega) (by omega) hl,Q,AYD j];refine⟨?_,?_,a.total,?_,?_,hl,S⟩
  .dsimp only;rw[G,AW g,WB _ _ _ (by omega)];refine QY (by simpa using ho.pid) λx hx=>?_
   have ⟨y,hy,he⟩:=On hx;obtain⟨rfl,_⟩:=Jo he;simpa using ho.ne y hy
  .dsimp only;rw[Um _ E,AW (by rw[q1,g])]
  .dsimp only;rw[aC _ E (by rw[B];exact H),AW (by rw[q1,g]),B];omega
  .dsimp only;rw[a.Jh,t1];omega
 .rw[AT e];have I:¬q.AZ=i:=by rw[q1,g];omega
  rw[AT (by rw[<-q1];exact I)]at G;refine⟨by rw[G,WB _ _ _ (by omega)],by rw[Q,Um _ E,AT I],a.total,by rw[Y,aC _ E (by rw[B];exact H),AT I];omega,by rw[a.Jh,t1],a.led,S⟩
def RH.sm(hR:RH h):Sm 1000 h:=by
 have G:=CO hR.rules;have E:=hR.Dz;have B:=hR.Oi;refine⟨by omega,by have:=hR.Ig.few;omega,by omega,?_,by have:=AWK (by omega) hR.todo;omega,by omega⟩;intro c e;obtain⟨i,hi,rfl⟩:=C4.1 e;have a:=hR.cab i hi;have j:=a.room;have y:=R8 h.AQ h.AG i h.Now;have g:=Ya hR.Ig (c:=i) (by omega);have q:=oY g;refine⟨by rw[a.row];omega,by rw[a.HD,eR];omega,by rw[a.HD];have:=q.few;omega⟩
def RH.fit(hR:RH h):Bt h:=hR.sm.fit (by omega)
theorem RH.xq(hR:RH h){q:AU}(e:q∈h.AG):0<=GN h q.Id/\par h q.Id=q:=by
 have a:0<=GN h q.Id:=by
  grind[GN,Jk]
 have ho:=hR.one a;refine⟨a,?_⟩;rcases Ae.1 (ho.perm.subset e) with c|c
 .exact c.symm
 .exact absurd rfl (ho.ne q c)
structure Kept(h g:AE):Prop where
 rules:g.AQ=h.AQ
 now:g.Now=h.Now
 turn:g.A5=h.A5
 Dz:g.AJ.length=h.AJ.length
 todo:g.BF=h.BF
 F9:g.BD=h.BD
theorem Kept.refl(h:AE):Kept h h:=⟨rfl,rfl,rfl,rfl,rfl,rfl⟩
def Kept.trans{a b c:AE}(h:Kept a b)(g:Kept b c):Kept a c:=⟨g.rules.trans h.rules,g.now.trans h.now,g.turn.trans h.turn,g.Dz.trans h.Dz,g.todo.trans h.todo,g.F9.trans h.F9⟩
def Zp(h:AE)(p:AU):Kept h (gone h p):=by
 unfold gone;dsimp only;split
 .exact⟨rfl,rfl,rfl,by simp[Cv],rfl,rfl⟩
 .exact⟨rfl,rfl,rfl,rfl,rfl,rfl⟩
def vF(h:AE)(p:AU):Kept h (dropped h p):=⟨rfl,rfl,rfl,by simp[dropped,Cv],rfl,rfl⟩
def RU(h:AE)(p:AU):Kept h (I9 h p):=by
 unfold I9;split
 .exact⟨rfl,rfl,rfl,by simp[HL,O4,dropped,Cv],rfl,rfl⟩
 .exact(vF h p).trans (Zp _ _)
def Ry(h:AE)(k id:Int):Kept h (JD h k id):=⟨rfl,rfl,rfl,by simp[JD,O4,Cv],rfl,rfl⟩
theorem AMS(ho:One h id p rest){q:AU}(c:q∈rest):q∈(I9 h p).AG:=by
 unfold I9;split
 .rename_i a;have e:(E2 h.AQ p h.Now).1.Id=id:=by
   unfold E2 at a ⊢;split at a
   .rename_i g;rw[AW g];exact ho.pid
   .cases a
  have ⟨l,j,y,_⟩:=ho.set _ e;show q∈Lb h.AG (E2 h.AQ p h.Now).1
  grind
 .have:(gone (dropped h p) p).AG=rest:=by
   rw[<-ho.cut,<-ho.pid];unfold gone;dsimp only;split<;>rfl
  rw[this];exact c
def Ub:List Int->AE->AE| [],g=>g|id::l,g=>Ub l (I9 g (par g id))
def ALz(g:AE)(l:List Int):Prop:=l.Nodup/\∀id∈l,0<=GN g id/\(par g id).State=2
theorem Vl(hR:RH g)(hO:ALz g (id::l)):RH (I9 g (par g id))/\ALz (I9 g (par g id)) l/\Kept g (I9 g (par g id)):=by
 have ⟨c,B⟩:=hO;rw[List.nodup_cons]at c;have ⟨G,H⟩:=B id (BK ..);have ho:=hR.one G;have hR':=Xv hR ho H;refine⟨hR',⟨c.2,?_⟩,RU _ _⟩;intro j E;have ⟨I,L⟩:=B j (Af _ E);have y:j≠id:=λe=>c.1 (e▸E)
 have a:=hR.one I;have J:par g j∈g.AG.eraseP (λx=>x.Id==id):=by
  rcases Ae.1 (ho.perm.subset a.mem) with q|q
  .exact absurd (by rw[<-a.pid,<-ho.pid,q]) y
  .exact q
 have:=hR'.xq (AMS ho J);rw[a.pid]at this
 grind
def RT:∀{l:List Int} {g:AE},RH g->ALz g l->RH (Ub l g)/\Kept g (Ub l g)
 | [],g,hR,_=>⟨hR,Kept.refl g⟩|id::l,g,hR,hO=>by
  have ⟨a,c,e⟩:=Vl hR hO;have ⟨j,q⟩:=RT a c;exact⟨j,e.trans q⟩
def Xu(h:AE)(k:Int):AE:=Ub (lL (cbn h k).B6 h.Now) h
theorem TS(hR:RH h)(I:k<h.AJ.length):ALz h (lL (cbn h k).B6 h.Now)/\(lL (cbn h k).B6 h.Now).length<=10:=by
 have E:=hR.cb I;have X:=CO hR.rules;have q:=Ya hR.Ig (c:=k) (by have:=E.room;omega);have e:lL (cbn h k).B6 h.Now=(Gt h.AG k).filterMap λp=>if p.At<=h.Now then some p.Id else none:=by
  unfold lL;rw[E.HD,AFB q]
 rw[e];refine⟨⟨?_,?_⟩,Av (CZ _ _) q.few⟩
 .show List.Pairwise _ _;rw[Ee];refine q.ids.imp ?_;intro a b L x g y Q;split at g<;>split at Q<;>simp_all
 .intro id j;have ⟨pin,J,g⟩:=List.mem_filterMap.1 j;split at g
  .have ⟨p,B,O⟩:=sZ J;obtain⟨rfl,S,_⟩:=Un O;cases g;have ⟨G,H⟩:=hR.xq B;exact⟨G,by rw[H];exact S⟩
  .cases g
def AZu(hR:RH h)(a:0<=GN h id):0<=(par h id).AZ/\(par h id).AZ<h.AJ.length/\(par h id).B0<h.AJ.length:=by
 have:=(hR.one a).size;have:=hR.Dz;omega
def RL(a:0<=GN h id):at? h.AG (GN h id)=some (par h id):=ZG a (R6 a).1
def oB(hR:RH h)(q:k<h.AJ.length):AJb h k=some (Xu h k):=by
 have ⟨hO,hl⟩:=TS hR q;unfold AJb Xu;rw[AEw hR.fit (by omega) (by omega),AB];generalize lL (cbn h k).B6 h.Now=D at *;refine(DK (F:=jX D) (n:=D.length) (λi (v:AE)=>((i:Int),v)) (λi v=>RH v/\ALz v (D.drop i)) (λi v=>some (Ub (D.drop i) v)) (by omega) ?_ (v:=h) ⟨hR,hO⟩);rintro L i v ⟨e,ho⟩ hi y;unfold jX ACP;dsimp only;rcases Aa i D.length with a|j
 .rw[Dt a]at ho ⊢;have g:=ho.2 D[i] (BK ..);have c:=AZu e g.1;have ⟨s1,B,_⟩:=Vl e ho;simp only[CF a,BQ,BM a,AB,Hb e.fit,RL g.1,VW (show 1000+2<=1048576 by omega) e.sm c.1 c.2.1 c.2.2,Bv a (show D.length<2 ^ 63 by omega)];exact y _ ⟨s1,B⟩ a
 .obtain rfl:i=D.length:=by omega
  rw[C2,BW,AV,Cq];rfl
def AD6(hR:RH h)(e:k<h.AJ.length)(ho:One h id (par h id) rest)(g:(par h id).State=1)(a:(par h id).AZ=k):(cbn (JD h k id) k).Row.length+1=(cbn h k).Row.length:=by
 unfold JD;rw[I6 (by omega) (by show (k:Int)<(h.AJ.length:Int);omega) (by omega),AW rfl];dsimp only;have:=(ho.cab hR e).row;rw[Km _ ho.okp g,AW a]at this;rw[this,QY (by simpa using ho.pid) λx j=>?_,GI];have ⟨y,q,c⟩:=On j;obtain⟨rfl,_⟩:=Jo c;simpa using ho.ne y q
theorem pO(hR:RH h)(g:k<h.AJ.length):AJe h k=some (if FE h k=0 then (h,0) else (JD h k (FE h k),FE h k))/\(FE h k=0->AJf h k=some ((),0)):=by
 have a:=hR.fit;unfold AJe AJf;rw[zG a (by omega) (by omega),AB,AB,Bu,Bu];by_cases c:FE h k=0
 .grind
 .refine⟨?_,λh=>absurd h c⟩;have ⟨j,q,y,B,E⟩:=mw hR g c;have e:=a.ES _ (Vd (k:=(k:Int)) (by omega) (by omega));rw[AT (by simpa using c),AT c];simp only[Hb a,AB,RL j,Gq,P3 a.CR,show at? h.AJ (k:Int)=some (cbn h k) from F4 (by omega) (by omega),n8,VR e.1,VU e.2];rfl
def Oy(k:Int):Nat->AE->List Int->AE×List Int|0,h,a=>(h,a)|n+1,h,a=>if FE h k=0 then (h,a) else Oy k n (JD h k (FE h k)) (a++[FE h k])
theorem ALi{k:Int}(c:FE h k=0)(a:List Int):∀n,Oy k n h a=(h,a)|0=>rfl|n+1=>by unfold Oy;rw[AW c]
def V4(hR:RH h)(a:k<h.AJ.length)(j:FE h k≠0):RH (JD h k (FE h k))/\(cbn (JD h k (FE h k)) k).Row.length+1=(cbn h k).Row.length:=by
 have ⟨c,e,g,q,y⟩:=mw hR a j;exact⟨AHM hR a (hR.one c) e g q,AD6 hR a (hR.one c) e g⟩
def AEh{k:Nat}:∀(n:Nat) {h:AE} (a:List Int),RH h->k<h.AJ.length->RH (Oy k n h a).1/\Kept h (Oy k n h a).1/\(Oy k n h a).2.length<=a.length+n
 |0,h,a,hR,_=>⟨hR,Kept.refl h,by unfold Oy;simp⟩|n+1,h,a,hR,e=>by
  unfold Oy;split
  .exact⟨hR,Kept.refl h,by simp⟩
  .rename_i B;have y:=V4 hR e B;have c:=Ry h k (FE h k);obtain⟨g,j,q⟩:=AEh n (a++[FE h k]) y.1 (by rw[c.Dz];exact e);refine⟨g,c.trans j,?_⟩;rw[AH,List.length_singleton]at q;omega
def Kb(h:AE)(k:Int):AE×List Int:=Oy k 10 (Xu h k) []
def eQ(hR:RH h)(c:k<h.AJ.length):(cbn h k).Row.length<=10:=by
 have a:=hR.cb c;have j:=CO hR.rules;have e:=R8 h.AQ h.AG k h.Now;have g:=a.room;rw[a.row];omega
def AD2{k:Int}(a:FE h k≠0):0<(cbn h k).Row.length:=by
 unfold FE at a;split at a
 .exact absurd rfl a
 .rename_i c;have ⟨_,hl,_⟩:=uE c;omega
theorem AVp(hR:RH h)(y:k<h.AJ.length):A9 (XU k) big ([],h)=some (Oy k 10 h []):=by
 have hlim:=Acx;refine aW (F:=XU k) (λx=>some (Oy k (10-x.1.length) x.2 x.1)) (λx=>RH x.2/\k<x.2.AJ.length/\x.1.length+(cbn x.2 k).Row.length<=10) (λx=>(cbn x.2 k).Row.length) ?_ (x:=([],h)) ⟨hR,y,by have:=eQ hR y;simpa using this⟩ (by have:=eQ hR y;show (cbn h k).Row.length<_;omega);rintro L ⟨a,g⟩ ⟨q,c,e⟩ E;dsimp only at q c e E ⊢;unfold XU;dsimp only;have ⟨H,I⟩:=pO q c;rw[H,AB];by_cases j:FE g k=0
 .grind[AB,ALi,BQ,AYe]
 .have ⟨s1,J⟩:=V4 q c j;have B:=AD2 j;rw[AT j];dsimp only;have G:(FE g k==0)=false:=by simpa using j
  rw[G,BW,CD (by simp only[AI,AM];omega),E (a++[FE g k],JD g k (FE g k)) ⟨s1,by rw[(Ry g k _).Dz];exact c,by simp only[AH,AI,AM];omega⟩ (by dsimp only;omega),AYf];congr 1;rw[show 10-a.length=(10-(a++[FE g k]).length)+1 by simp only[AH,AI,AM];omega]
  conv=>rhs;unfold Oy
  rw[AT j]
def WD(hR:RH h)(c:k<h.AJ.length):RH (Kb h k).1/\Kept h (Kb h k).1/\(Kb h k).2.length<=10:=by
 have ⟨g,a⟩:=RT hR (TS hR c).1;have ⟨s1,j,e⟩:=AEh (k:=k) 10 [] g (by rw[a.Dz];exact c);exact⟨s1,a.trans j,by simp only[AM,Nat.zero_add]at e;exact e⟩
def AOZ(hR:RH h)(c:k<h.AJ.length):AJg h k=some (Kb h k):=by
 have a:=hR.fit;have j:=a.Dz;have ⟨e,g⟩:=RT hR (TS hR c).1;unfold AJg APa jS;rw[IC a,AB,Gp a,G0.2 hR,AB,BQ,GZ,AB,AV,AB,A7,B9.2 (by omega),BG,BQ,oB hR c,AB];exact AVp e (Nat.lt_of_lt_of_eq c g.Dz.symm)
theorem Gx(a:verdict h q=0):RH h:=by
 grind[verdict,G0]
def SO(B:q.Kind=7)(a:verdict h q=0):∃n:Nat,∃e:n<h.BD.length,q.Id=(n:Int)/\¬(h.BD[n]<0/\h.BF.length=0):=by
 have hR:=Gx a;unfold verdict at a;rw[AW (G0.2 hR)]at a;unfold IG at a;split at a
 .cases a
 .split at a
  .cases a
  .rename_i j;have c:KJ q=true:=by simpa using j
   have hi:0<=q.Id:=by
    unfold KJ at c;rw[ifN,ifP]at c;simp only[AF,RW,B9]at c;exact c.1.1
   rw[ifN,ifN,ifN,ifN,ifN]at a
   try rw[AW B]at a
   by_cases g:h.AQ.C7<=q.Id
   .rw[AW g]at a;cases a
   .rw[AT g]at a;have ⟨n,e⟩:=Ai hi;have hl:n<h.BD.length:=by have:=hR.Oi;omega
    refine⟨n,hl,e,?_⟩;rw[e,Ag,BC,AR hl,DH]at a;intro y;rw[AW y]at a;cases a
def Q9(h:AE)(l:List Int):AE:=⟨h.AQ,h.Now,h.A5,h.AG,h.AJ,h.BF,l⟩
def V7(h:AE)(who:Int):AE×List Int:=
 if h.BD.getD who.toNat 0<0 then (Q9 (Eb h (h.BF.drop 1)) (h.BD.set who.toNat (h.BF.getD 0 0)),[])
 else (Q9 (Kb h (h.BD.getD who.toNat 0)).1 ((Kb h (h.BD.getD who.toNat 0)).1.BD.set who.toNat (-1)),(Kb h (h.BD.getD who.toNat 0)).2)
def VO(h:AE)(who:Int):AE×Int×List Int:=
 if verdict h ⟨7,who,0,0,0,0⟩≠0 then (h,verdict h ⟨7,who,0,0,0,0⟩,[]) else ((V7 h who).1,0,(V7 h who).2)
theorem RH.job(hR:RH h)(a:n<h.BD.length)(c:¬h.BD[n]<0):∃k:Nat,k<h.AJ.length/\h.BD[n]=(k:Int):=by
 have:=CG.1 hR.F9 _ (Ak a);have e:=hR.fit.Dz
 grind[B9,A7,Int.eq_ofNat_of_zero_le]
theorem AOY(c:Bt h)(who:Int):AJh h who=some (VO h who)/\Bt (VO h who).1/\(VO h who).2.2.length<=10:=by
 have hlim:=Acx;unfold AJh VO;rw[IC c,AB,Hc c,AB];simp only[Bu,bne_iff_ne,ne_eq];by_cases q:verdict h ⟨7,who,0,0,0,0⟩=0
 .rw[AT (not_not_intro q),AT (not_not_intro q)];have hR:=Gx q;have ⟨n,j,e,E⟩:=SO rfl q;dsimp only at e;subst e;have eg:h.BD.getD n 0=h.BD[n]:=by rw[BC,AR j];rfl
  unfold V7;rw[BM j,AB,Ag,eg];simp only[decide_eq_true_eq];by_cases g:h.BD[n]<0
  .rw[AW g,AW g];have I:0<h.BF.length:=by
    rcases Nat.eq_zero_or_pos h.BF.length with y|y
    .exact absurd ⟨g,y⟩ E
    .exact y
   have J:h.BF.getD 0 0=h.BF[0]:=by rw[BC,AR I];rfl
   have G:=c.todo;have L:(List.drop (Int.toNat 1) h.BF).length<=h.BF.length:=by rw[BI];omega
   rw[WY,AR I,AB,AB,AB,CD ⟨by omega,by omega⟩,CD (by omega),J];exact⟨rfl,⟨c.Ds,c.CR,c.Dz,c.ES,Av L G,by show (h.BD.set _ _).length<=_;rw[BP];exact c.F9⟩,by simp⟩
  .rw[AT g,AT g];have ⟨k,H,ek⟩:=hR.job j g;have ⟨s1,O,Q⟩:=WD hR H;rw[ek,AOZ hR H,AB];have B:n<(Kb h k).1.BD.length:=by rw[O.F9];exact j
   rw[BM B,AB,AB];have a:=s1.fit;exact⟨rfl,⟨a.Ds,a.CR,a.Dz,a.ES,a.todo,by show ((Kb h k).1.BD.set _ _).length<=_;rw[BP];exact a.F9⟩,Q⟩
 grind
def doF(h:AE)(q:Bq):AE×CA:=
 if verdict h q≠0 then (h,⟨verdict h q,[]⟩)
 else if q.Kind=1 then ((cM h q.Id q.AZ q.B0 q.BL q.DS).1,⟨(cM h q.Id q.AZ q.B0 q.BL q.DS).2,[]⟩)
 else if q.Kind=2 then ((PG h q.Id).1,⟨(PG h q.Id).2,[]⟩)
 else if q.Kind=3 then ((bu h q.AZ q.BL).1,⟨(bu h q.AZ q.BL).2,[]⟩)
 else if q.Kind=4 then ((O9 h q.Id).1,⟨(O9 h q.Id).2,[]⟩)
 else if q.Kind=5 then ((Mr h q.Id).1,⟨(Mr h q.Id).2,[]⟩)
 else if q.Kind=6 then ((dG h).1,⟨(dG h).2,[]⟩)
 else ((VO h q.Id).1,⟨(VO h q.Id).2.1,(VO h q.Id).2.2⟩)
theorem y4(E:Bt h)(q:Bq):bj h q=some (doF h q)/\Bt (doF h q).1/\(doF h q).2.Ids.length<=10:=by
 unfold bj doF Mn;rw[IC E,AB,Hc E,AB];simp only[Bu,bne_iff_ne,ne_eq,beq_iff_eq,AV];by_cases G:verdict h q=0
 .have hR:=Gx G;have a:=hR.sm;have H:=hR.Dz;have I:=CO hR.rules;rw[AT (not_not_intro G),AT (not_not_intro G)];by_cases c:q.Kind=1
  .rw[AW c,AW c];have:=AOW (show 1000+3<=1048576 by omega) a q.Id q.AZ q.B0 q.BL q.DS;rw[this.1,AB];exact⟨rfl,this.2.fit (by omega),by simp⟩
  .rw[AT c,AT c];by_cases e:q.Kind=2
   .rw[AW e,AW e];have:=AEs (show 1000+1<=1048576 by omega) a q.Id;rw[this.1,AB];exact⟨rfl,this.2.fit (by omega),by simp⟩
   .rw[AT e,AT e];by_cases g:q.Kind=3
    .rw[AW g,AW g];have:=nq (show 1000+1<=1048576 by omega) a q.AZ q.BL;rw[this.1,AB];exact⟨rfl,this.2.fit (by omega),by simp⟩
    .rw[AT g,AT g];by_cases j:q.Kind=4
     .rw[AW j,AW j];have:=AEq (show 1000+1<=1048576 by omega) a q.Id;rw[this.1,AB];exact⟨rfl,this.2.fit (by omega),by simp⟩
     .rw[AT j,AT j];by_cases y:q.Kind=5
      .rw[AW y,AW y];have:=yz (show 1000+3<=1048576 by omega) a q.Id;rw[this.1,AB];exact⟨rfl,this.2.fit (by omega),by simp⟩
      .rw[AT y,AT y];by_cases B:q.Kind=6
       .rw[AW B,AW B];have:=AOb a (show 1000+h.AJ.length<=1048576 by omega);rw[this.1,AB];exact⟨rfl,this.2.fit (by omega),by simp⟩
       .rw[AT B,AT B];have:=AOY E q.Id;rw[this.1,AB];exact⟨rfl,this.2.1,this.2.2⟩
 grind
def Dr:List Bq->AE->AE×List CA| [],h=>(h,[])|q::l,h=>((Dr l (doF h q).1).1,(doF h q).2::(Dr l (doF h q).1).2)
theorem ID:∀(l:List Bq) {h:AE},Bt h->Bt (Dr l h).1/\(Dr l h).2.length=l.length/\∀r∈(Dr l h).2,r.Ids.length<=10
 | [],h,a=>⟨a,rfl,by simp[Dr]⟩|q::l,h,a=>by
  have c:=y4 a q;have ⟨e,g,j⟩:=ID l c.2.1
  grind[Dr]
def MA:∀(l m:List Bq) (h:AE),Dr (l++m) h=((Dr m (Dr l h).1).1,(Dr l h).2++(Dr m (Dr l h).1).2)| [],m,h=>rfl|q::l,m,h=>by simp only[Bm,Dr,MA l m]
theorem SD(q:Bt h){l:List Bq}(hl:l.length<=1048576):bk h l=some (Dr l h):=by
 have hlim:=Acx;unfold bk;rw[IC q,AB];refine(DK (F:=jf l) (n:=l.length) (λi (v:List CA×AE)=>(v.1,(i:Int),v.2)) (λi v=>Bt v.2/\v.1.length=i) (λi v=>some ((Dr (l.drop i) v.2).1,v.1++(Dr (l.drop i) v.2).2)) (by omega) ?_ (v:=([],h)) ⟨q,rfl⟩).trans ?_
 .rintro L i ⟨a,g⟩ ⟨y,e⟩ hi B;dsimp only at y e B ⊢;unfold jf ACT;dsimp only;rcases Aa i l.length with c|E
  .have j:=y4 y l[i];rw[Dt c];simp only[CF c,BQ,BM c,AB,j.1,Ij,zS,Bv c (show l.length<2 ^ 63 by omega)];rw[CD (by simp only[AI,AM];omega)];have:=B (a++[(doF g l[i]).2],(doF g l[i]).1) ⟨j.2.1,by simp[e]⟩ c;dsimp only at this;rw[this];simp only[Dr,BR,Il]
  .grind[BW,AV,Dr]
 .simp
theorem oR{n:Int}:Hq t n=true↔(∀k∈t,0<=k/\k<=w64 (n-1))/\t.Pairwise λa b=>a≠b:=by
 grind[SK,Ca,B9,List.mem_iff_getElem,Hq,J1,List.pairwise_iff_getElem]
theorem Y5(e:n<=1048576)(h:Hq t n=true){k:Int}(a:0<=k)(c:k<n):Hq (Q5 t k) n=true:=by
 grind[Q5,oR,A7]
def RH.len(hR:RH h):h.AJ.length<=4/\h.AJ.length=h.AQ.AX.length:=by
 have:=CO hR.rules;have:=hR.Dz;omega
theorem RH.Eb(hR:RH h)(hl:Hq l h.AJ.length=true):RH (Eb h l):=⟨hR.rules,hR.now,hR.turn,hR.Dz,hR.Ig,hR.cab,hl,hR.F9,hR.Oi⟩
def RH.Q9(hR:RH h)(hl:J0 l h.AJ.length=true)(a:l.length=h.BD.length):RH (Q9 h l):=⟨hR.rules,hR.now,hR.turn,hR.Dz,hR.Ig,hR.cab,hR.todo,hl,by show (l.length:Int)=_;rw[a];exact hR.Oi⟩
theorem RH.put(hR:RH h){k:Int}(a:0<=k)(c:k<h.AJ.length):RH (Lv.P.Eb h (Q5 h.BF k)):=hR.Eb (Y5 (by have:=hR.len;omega) hR.todo a c)
def uK(hR:RH h)(e:0<=GN h id):RH (cancelled h id):=by
 have ho:=hR.one e;have j:=ho.size;have a:=hR.len;unfold cancelled;dsimp only;split
 .rename_i c;refine eD hR ho (g:=Eb (dropped h (par h id)) (Q5 (dropped h (par h id)).BF (par h id).AZ)) (Rx hR ho c (.inr ⟨rfl,rfl⟩)) rfl rfl rfl rfl (by simp[Eb,dropped,Cv]) ?_ rfl;exact Y5 (by omega) hR.todo j.2.1.1 (by omega)
 .rename_i c;have s1:(par h id).State=1:=by have:=(FF ho.okp);omega
  have:=ho.pid;exact eD hR ho (g:=UD h (par h id).AZ id) (AH6 hR ho s1) rfl rfl rfl rfl (by simp[UD,Cv]) hR.todo rfl
def ADY(hR:RH h)(B:k<h.AJ.length){n:Int}(E:0<=n/\n<=60)(hl:(cbn h k).AX.Gb+n<=(cbn h k).AX.GB):RH (TW h k n):=by
 have q:=hR.len;have j:=hR.cb B;have kl:=GH.1 j.led;have c:Ep ⟨(cbn h k).AX.Total,(cbn h k).AX.D7+1*n,(cbn h k).AX.FQ+0*n,(cbn h k).AX.GB+(-1)*n,(cbn h k).AX.Gb+0*n⟩=true:=by
  rw[GH];dsimp only;omega
 have y:=sO j.led E (by omega) (by omega) (by omega) (by omega) c;refine RH.mk' hR.rules hR.now hR.turn (by show (h.AJ.set _ _).length=_;rw[BP];exact hR.Dz) hR.Ig ?_ (by show Hq (Q5 h.BF k) ((h.AJ.set _ _).length:Nat)=true;rw[BP];exact Y5 (by omega) hR.todo (by omega) (by omega)) (by show J0 h.BD ((h.AJ.set _ _).length:Nat)=true;rw[BP];exact hR.F9) hR.Oi;intro i hi;have g:i<h.AJ.length:=by have:i<(h.AJ.set (k:Int).toNat _).length:=hi;rw[BP]at this;exact this
 have a:=hR.cb g;show WQ h.AQ h.AG h.Now i (cbn (Cv h k ⟨(l8 (cbn h k).AX n 1 0 (-1) 0).1,(cbn h k).Row,(cbn h k).B6⟩) i);rw[I6 (by omega) (by omega) (by omega)];by_cases e:(i:Int)=k
 .obtain rfl:i=k:=by omega
  rw[AW rfl,y];exact⟨a.row,a.HD,a.total,by dsimp only;rw[a.held];omega,by dsimp only;rw[a.Jh];omega,c,a.room⟩
 .rw[AT e];exact a
theorem sU(hR:RH h)(a:k<h.AJ.length):Kk h k=(cbn h k).AX.GB-(cbn h k).AX.Gb:=by
 have kl:=GH.1 (hR.cb a).led
 grind[Kk,cbn,A7]
theorem zk(hR:RH h)(E:0<=GN h id)(J:(par h id).State=2):RH (accepted h id):=by
 have ho:=hR.one E;have H:=ho.size;have y:=hR.len;have j:AOn h (par h id) _ (P1 h (par h id)):=Rx hR ho J (.inl ⟨rfl,rfl⟩);have g:RH (gone (P1 h (par h id)) (par h id)):=eD hR ho j rfl rfl rfl rfl (by simp[P1,Cv]) hR.todo rfl;unfold accepted;dsimp only;split
 .rename_i B;have ⟨k,q⟩:=Ai B;have c:k<h.AJ.length:=by omega
  rw[q];refine ADY g (by rw[ADc];show k<((P1 h (par h id)).AJ.length);simpa[P1,Cv] using c) (by omega) ?_;have a:=j k c;have kl:=GH.1 a.led;have I:=a.Jh;rw[Iz _ H.1,AW q]at I;have G:=AE5 (h.AG.eraseP λx=>x.Id==id) k;have e:(P1 h (par h id)).AG.eraseP (λx=>x.Id==(par h id).Id)=h.AG.eraseP λx=>x.Id==id:=by rw[ho.pid];exact ho.cut
  grind[cbn,P1,GH,gone,Cv,sO]
 .exact g
theorem UH(a:K4 h id=0):0<=GN h id/\(par h id).State=2:=by
 unfold K4 at a;by_cases c:GN h id<0
 .grind
 .rw[AT c]at a;by_cases e:(h.AG.getD (GN h id).toNat yb).State=2
  .exact⟨by omega,e⟩
  grind
theorem Q8(a:verdict h q=0):IG h q=0/\KJ q=true:=by
 grind[verdict,IG]
theorem AFA(c:inB q.Kind 1 7=true)(e:KJ q=true)(a:IG h q=0):(q.Kind=1->YP h q=0)/\(q.Kind=2->¬GN h q.Id<0) /\
 (q.Kind=3->q.AZ<h.AJ.length/\inB q.BL 1 60=true/\q.BL<=Kk h q.AZ)/\(q.Kind=4\/q.Kind=5->K4 h q.Id=0)/\(q.Kind=6->h.Now<1000000):=by
 unfold IG at a;rw[c,e]at a;simp only[Dd,if_false]at a;refine⟨λk=>?_,λk=>?_,λk=>?_,λk=>?_,λk=>?_⟩
 .rw[AW k]at a;exact a
 .grind
 .grind
 .grind
 grind
theorem AXV(h:KJ q=true):inB q.Kind 1 7=true:=by
 grind[KJ,B9]
def Gw(a:verdict h q=0):(q.Kind=1->YP h q=0)/\(q.Kind=2->¬GN h q.Id<0) /\
 (q.Kind=3->q.AZ<h.AJ.length/\inB q.BL 1 60=true/\q.BL<=Kk h q.AZ)/\(q.Kind=4\/q.Kind=5->K4 h q.Id=0)/\(q.Kind=6->h.Now<1000000):=
 AFA (h:=h) (AXV (Q8 a).2) (Q8 a).2 (Q8 a).1
def ADI(hR:RH h)(c:0<=GN h id)(q:(par h id).State=2):RH (ADH h id):=by
 have ho:=hR.one c;have j:=ho.size;have a:=hR.len;have e:=Xv hR ho q;have g:=RU h (par h id);exact e.put j.2.1.1 (by have:=g.Dz;omega)
theorem AaI:∀{ps:List AU},(∀p∈ps,0<=p.AZ/\p.AZ<4)->(ps.length:Int)=Da ps 0+Da ps 1+Da ps 2+Da ps 3
 | [],_=>rfl|p::ps,h=>by
  have c:=AaI (ps:=ps) λq a=>h q (Af _ a)
  grind[List.mem_cons_self,IV,List.length_cons]
theorem APE{ps:List AU}{c:Int}(h:∀p∈ps,p.AZ≠c):Da ps c=0:=by
 induction ps with
 |nil=>rfl|cons p ps a=>
  grind[IV,List.mem_cons_self,List.mem_cons_of_mem]
def RH.cnt(hR:RH h)(c:Int):Da h.AG c<=h.AQ.Room:=by
 have a:=hR.len;have j:=CO hR.rules;by_cases e:0<=c/\c<h.AJ.length
 .obtain⟨k,rfl⟩:=Ai e.1;exact(hR.cb (by omega)).room
 .rw[APE λp g=>?_]
  .omega
  .have:=FF (hR.Ig.par p g).1;omega
def sM{cb fr:Int}(hv:verdict h ⟨1,id,cb,fr,sz,tr⟩=0):RH (NG h id cb fr sz tr)/\(NG h id cb fr sz tr).AQ=h.AQ/\(NG h id cb fr sz tr).AG.Perm (IH h id cb fr sz tr::h.AG)/\∀p∈h.AG,p.Id≠id:=by
 have hR:=Gx hv;have hlen:=hR.len;have hr:=CO hR.rules;have O:=hR.now;have hturn:=hR.turn;have j:=(Gw hv).1 rfl;have ha:=(Q8 hv).2;unfold KJ at ha;rw[AW rfl]at ha;simp only[AF,RW,B9]at ha;have ⟨_,ha2,ha3,ha4,ha5⟩:=ha;unfold YP at j;dsimp only at j;by_cases c1:(h.AJ.length:Int)<=cb\/(h.AJ.length:Int)<=fr\/fr=cb
 .rw[AW c1]at j;cases j
 rw[AT c1]at j;by_cases c2:inB sz 1 h.AQ.BL=false
 .rw[AW c2]at j;cases j
 rw[AT c2]at j;by_cases c3:h.AQ.Cd<=tr
 .rw[AW c3]at j;cases j
 rw[AT c3]at j;by_cases c4:inB id 1 999=false
 .rw[AW c4]at j;cases j
 rw[AT c4]at j;by_cases L:0<=GN h id
 .rw[AW L]at j;cases j
 rw[AT L]at j;by_cases c6:h.AQ.Room<=Da h.AG cb
 .rw[AW c6]at j;cases j
 rw[AT c6]at j;by_cases c7:0<=fr/\Kk h fr<sz
 .rw[AW c7]at j;cases j
 rw[AT c7]at j;by_cases c8:1000000<h.A5
 .rw[AW c8]at j;cases j
 have J:=B9.1 (by simpa using c2:inB sz 1 h.AQ.BL=true);have c4':=B9.1 (by simpa using c4:inB id 1 999=true);have hfresh:∀p∈h.AG,p.Id≠id:=λp Q e=>L (by have:=(hR.xq Q).1;rw[e]at this;exact this)
 have hpput:∀p:AU,p.Id=id->Lb h.AG p=put LP p h.AG:=by
  intro p Q;unfold Lb;unfold GN at L;rw[Q,AT L]
 have ew:w64 (h.A5+1)=h.A5+1:=A7 (by omega) (by omega);have S:D3 h.AQ ⟨id,cb,fr,sz,tr,h.Now,h.A5,1,0,0⟩ h.Now=true:=by
  unfold D3;simp only[AF,B9,Bool.or_eq_true,beq_iff_eq,A8,beq_eq_false_iff_ne];have e1:w64 ((h.AQ.AX.length:Int)-1)=(h.AQ.AX.length:Int)-1:=A7 (by omega) (by omega);have e2:w64 (h.AQ.Cd-1)=h.AQ.Cd-1:=A7 (by omega) (by omega);have e3:w64 (h.AQ.Cl-1)=h.AQ.Cl-1:=A7 (by omega) (by omega);have e4:w64 (h.Now+h.AQ.Rest)=h.Now+h.AQ.Rest:=A7 (by omega) (by omega);rw[e1,e2,e3,e4];refine⟨hR.rules,O,c4',by omega,by omega,by omega,J,by omega,by omega,by omega,by omega,.inl ⟨trivial,by omega⟩⟩
 have hperm:(put LP (IH h id cb fr sz tr) h.AG).Perm (IH h id cb fr sz tr::h.AG):=Yc _ _;have hpn:∀q:AU,q∈IH h id cb fr sz tr::h.AG->q=IH h id cb fr sz tr\/q∈h.AG:=λq E=>Ae.1 E
 have hPR:RG h.AQ h.Now (h.A5+1) (put LP (IH h id cb fr sz tr) h.AG):=by
  refine⟨?_,?_,?_,?_⟩
  .rw[GI];have h4:=AaI (ps:=h.AG) λp Q=>by have:=FF (hR.Ig.par p Q).1;omega
   have r0:=hR.cnt 0;have r1:=hR.cnt 1;have r2:=hR.cnt 2;have r3:=hR.cnt 3;rcases(show cb=0\/cb=1\/cb=2\/cb=3 by omega) with e|e|e|e<;>rw[e]at c6<;>omega
  .intro q E;rcases hpn q (hperm.subset E) with rfl|E
   .exact⟨S,by show h.A5<h.A5+1;omega⟩
   .have:=hR.Ig.par q E;exact⟨this.1,by omega⟩
  .have hd:SQ LP (IH h id cb fr sz tr::h.AG):=by
    unfold SQ;rw[Bn];refine⟨λq E=>?_,hR.Ig.ids.imp λh=>.inl (by unfold LP;rw[decide_eq_true_iff];exact h)⟩;have:=hfresh q E;unfold LP;rw[decide_eq_true_iff,decide_eq_true_iff];show id<q.Id\/q.Id<id;omega
   have hs:Dg LP h.AG=h.AG:=Qg mc (hR.Ig.ids.imp λh=>by unfold LP;rw[decide_eq_true_iff];exact h);have:=M0 mc hd;rw[Hi,hs]at this;exact this.imp λh=>by unfold LP at h;simpa using h
  .rw[hperm.pairwise_iff (λ{a b} h=>by rw[AFS];exact h),Bn];refine⟨λq E=>?_,hR.Ig.turns⟩;have h1:=hR.Ig.par q E;have h2:=FF h1.1;unfold I2 IH;simp only[Bool.or_eq_false_iff,beq_eq_false_iff_ne,Bool.and_eq_false_iff,decide_eq_false_iff_not];refine⟨by omega,.inl (by omega),.inr (by omega)⟩
 have hu:=hPR.uni;have hz:1<=(IH h id cb fr sz tr).BL/\(IH h id cb fr sz tr).BL<=6:=⟨J.1,by show sz<=6;omega⟩;have hmain:RH (if 0<=fr then Jh (HL ⟨h.AQ,h.Now,w64 (h.A5+1),Lb h.AG (IH h id cb fr sz tr),h.AJ,h.BF,h.BD⟩ (IH h id cb fr sz tr)) fr sz else HL ⟨h.AQ,h.Now,w64 (h.A5+1),Lb h.AG (IH h id cb fr sz tr),h.AJ,h.BF,h.BD⟩ (IH h id cb fr sz tr)):=by
  rw[hpput _ rfl,ew];generalize hP:IH h id cb fr sz tr=p at *;have q1:p.AZ=cb:=by rw[<-hP];rfl
  have q2:p.B0=fr:=by rw[<-hP];rfl
  have q3:p.BL=sz:=by rw[<-hP];rfl
  have q4:p.State=1:=by rw[<-hP];rfl
  have q5:D3 h.AQ p h.Now=true:=by rw[<-hP];exact S
  have hx:∀i:Nat,i<h.AJ.length->Sd h.AQ (put LP p h.AG) h.AG h.Now i (cbn (HL ⟨h.AQ,h.Now,h.A5+1,put LP p h.AG,h.AJ,h.BF,h.BD⟩ p) i):=by
   intro i hi;unfold HL;rw[I6 (by omega) (by show p.AZ<(h.AJ.length:Int);omega) (by omega)];have y:=hR.cb hi;refine Sd.perm ?_ (hu.perm hperm) hperm.symm (.refl _);by_cases e:(i:Int)=p.AZ
   .rw[AW e,<-e];refine⟨?_,?_,y.total,?_,y.Jh,y.led,?_⟩
    .dsimp only;rw[Km _ q5 q4,AW e.symm,RS q5 q4];show put ltE _ (cbn h i).Row=_;rw[y.row]
    .dsimp only;rw[OB _ (by omega)];exact y.HD
    .dsimp only;rw[N7 _ (by omega)];exact y.held
    .rw[IV,AW e.symm];have:(i:Int)=cb:=by omega
     rw[this];omega
   .rw[AT e];refine⟨?_,?_,y.total,?_,y.Jh,y.led,?_⟩
    .rw[Km _ q5 q4,AT (Ne.symm e)];exact y.row
    .rw[OB _ (by omega)];exact y.HD
    .rw[N7 _ (by omega)];exact y.held
    .rw[IV,AT (Ne.symm e),GU];exact y.room
  have hXl:(HL ⟨h.AQ,h.Now,h.A5+1,put LP p h.AG,h.AJ,h.BF,h.BD⟩ p).AJ.length=h.AJ.length:=by simp[HL,Cv]
  have hX:Kept (⟨h.AQ,h.Now,h.A5+1,put LP p h.AG,h.AJ,h.BF,h.BD⟩:AE) (HL ⟨h.AQ,h.Now,h.A5+1,put LP p h.AG,h.AJ,h.BF,h.BD⟩ p):=⟨rfl,rfl,rfl,hXl,rfl,rfl⟩;have hXs:∀i:Nat,(cbn (HL ⟨h.AQ,h.Now,h.A5+1,put LP p h.AG,h.AJ,h.BF,h.BD⟩ p) i).AX=(cbn h i).AX:=by
   intro i;unfold HL;rw[I6 (by omega) (by show p.AZ<(h.AJ.length:Int);omega) (by omega)];by_cases e:(i:Int)=p.AZ
   .rw[AW e,e];rfl
   .rw[AT e];rfl
  have hXp:(HL ⟨h.AQ,h.Now,h.A5+1,put LP p h.AG,h.AJ,h.BF,h.BD⟩ p).AG=put LP p h.AG:=rfl;generalize HL ⟨h.AQ,h.Now,h.A5+1,put LP p h.AG,h.AJ,h.BF,h.BD⟩ p=X at *;have ⟨B,I,Z,G,x5,x6⟩:=hX;dsimp only at B I Z G x5 x6;split
  .rename_i f0;have ⟨k,hk⟩:=Ai f0;have hkl:k<h.AJ.length:=by omega
   have hlo:=sU hR hkl;have hsz:sz<=Kk h fr:=by
    rcases Int.lt_or_le (Kk h fr) sz with c|c
    .exact absurd ⟨f0,c⟩ c7
    .exact c
   refine RH.mk' (by show Dp X.AQ=true;rw[B];exact hR.rules) (by show 0<=X.Now/\X.Now<=1000000;rw[I];exact hR.now) (by show 1<=X.A5/\X.A5<=1000001;rw[Z];omega) (by simp only[Jh,Cv,BP];rw[G,B];exact hR.Dz) (by show RG X.AQ X.Now X.A5 X.AG;rw[B,I,Z,hXp];exact hPR) ?_
    (by simp only[Jh,Cv,BP];rw[G,x5];exact hR.todo) (by simp only[Jh,Cv,BP];rw[G,x6];exact hR.F9) (by show (X.BD.length:Int)=X.AQ.C7;rw[x6,B];exact hR.Oi)
   intro i hi;have H:i<h.AJ.length:=by simp only[Jh,Cv,BP]at hi;rw[G]at hi;exact hi
   have g:=hx i H;unfold Jh;rw[I6 f0 (by omega) (by omega)];show WQ X.AQ X.AG X.Now i _;rw[B,I,hXp];refine Sd.full (Sd.perm (ps:=put LP p h.AG) (qs:=p::h.AG) ?_ hu (.refl _) hperm.symm);by_cases e:(i:Int)=fr
   .obtain rfl:i=k:=by omega
    rw[AW e,<-e];have kl:=GH.1 g.led;have hsame:=hXs i;have hl:Ep ⟨(cbn X i).AX.Total,(cbn X i).AX.D7+0*sz,(cbn X i).AX.FQ+0*sz,(cbn X i).AX.GB+0*sz,(cbn X i).AX.Gb+1*sz⟩=true:=by
     rw[GH];dsimp only;rw[hk,hlo,<-hsame]at hsz;omega
    rw[sO g.led (by omega) (by omega) (by omega) (by omega) (by omega) hl];refine⟨g.row,g.HD,g.total,by dsimp only;rw[g.held];omega,?_,hl,g.room⟩;dsimp only;rw[Iz _ hz,ifP,g.Jh];omega
   .rw[AT e];refine⟨g.row,g.HD,g.total,g.held,?_,g.led,g.room⟩;rw[Iz _ hz,ifN,g.Jh];omega
  .rename_i f0;refine RH.mk' (by rw[B];exact hR.rules) (by rw[I];exact hR.now) (by rw[Z];omega) (by rw[G,B];exact hR.Dz) (by rw[B,I,Z,hXp];exact hPR) ?_ (by rw[G,x5];exact hR.todo) (by rw[G,x6];exact hR.F9) (by rw[x6,B];exact hR.Oi);intro i hi;have H:i<h.AJ.length:=by omega
   have g:=hx i H;rw[B,I,hXp];refine Sd.full (Sd.perm (ps:=put LP p h.AG) (qs:=p::h.AG) ?_ hu (.refl _) hperm.symm);refine⟨g.row,g.HD,g.total,g.held,?_,g.led,g.room⟩;rw[Iz _ hz,ifN,g.Jh];omega
 unfold NG;dsimp only;generalize hY:(if 0<=fr then Jh (HL ⟨h.AQ,h.Now,w64 (h.A5+1),Lb h.AG (IH h id cb fr sz tr),h.AJ,h.BF,h.BD⟩ (IH h id cb fr sz tr)) fr sz else HL ⟨h.AQ,h.Now,w64 (h.A5+1),Lb h.AG (IH h id cb fr sz tr),h.AJ,h.BF,h.BD⟩ (IH h id cb fr sz tr))=Y at *;have hYc:Y.AJ.length=h.AJ.length:=by rw[<-hY];split<;>simp[Jh,HL,Cv]
 have hYp:Y.AG=put LP (IH h id cb fr sz tr) h.AG:=by rw[<-hY,hpput _ rfl];split<;>rfl
 have hYr:Y.AQ=h.AQ:=by rw[<-hY];split<;>rfl
 exact⟨hmain.put (by omega) (by omega),hYr,by show Y.AG.Perm _;rw[hYp];exact hperm,hfresh⟩
theorem AAK(h:AE)(l:List Int)(j:Int):cbn (Eb h l) j=cbn h j:=rfl
theorem AOg(hi:i<h.AJ.length)(a:0<=j):cbn (Ly h i) j=if j=i then ⟨(cbn h i).AX,EB h.AQ h.AG i h.Now,(cbn h i).B6⟩ else cbn h j:=by
 grind[Ly,AAK,I6]
structure Tk(h g:AE):Prop where
 rules:g.AQ=h.AQ
 now:g.Now=h.Now
 turn:g.A5=h.A5
 Dz:g.AJ.length=h.AJ.length
 Ig:g.AG=h.AG
 F9:g.BD=h.BD
def AE3:Tk h (Ly h i):=by
 unfold Ly;dsimp only;split
 .exact⟨rfl,rfl,rfl,by simp[Eb,Cv],rfl,rfl⟩
 .exact⟨rfl,rfl,rfl,by simp[Cv],rfl,rfl⟩
def AH3(hi:i<h.AJ.length)(hl:h.AJ.length<=1048576)(a:Hq h.BF h.AJ.length=true):Hq (Ly h i).BF h.AJ.length=true:=by
 unfold Ly;dsimp only;split
 .exact Y5 hl a (by omega) (by omega)
 .exact a
theorem tX:∀(k i:Nat) {h:AE},i+k=h.AJ.length->h.AJ.length<=1048576->Hq h.BF h.AJ.length=true ->
 Tk h (LX k i h)/\Hq (LX k i h).BF h.AJ.length=true/\∀j:Nat,j<h.AJ.length->cbn (LX k i h) j=if i<=j then ⟨(cbn h j).AX,EB h.AQ h.AG j h.Now,(cbn h j).B6⟩ else cbn h j
 |0,i,h,e,hl,c=>⟨⟨rfl,rfl,rfl,rfl,rfl,rfl⟩,c,λj q=>by rw[ifN];rfl⟩|k+1,i,h,e,hl,c=>by
  have hi:i<h.AJ.length:=by omega
  have t:=AE3 (h:=h) (i:=i);have ⟨a,g,a3⟩:=tX k (i+1) (h:=Ly h i) (by rw[t.Dz];omega) (by rw[t.Dz];exact hl) (by rw[t.Dz];exact AH3 hi hl c);unfold LX;refine⟨⟨a.rules.trans t.rules,a.now.trans t.now,a.turn.trans t.turn,a.Dz.trans t.Dz,a.Ig.trans t.Ig,a.F9.trans t.F9⟩,by rw[t.Dz]at g;exact g,?_⟩;intro j q;rw[a3 j (by rw[t.Dz];exact q),t.rules,t.Ig,t.now,AOg hi (by omega)]
  grind
theorem AEF(h:D3 r p now=true)(a:now<1000000):D3 r p (now+1)=true:=by
 grind[CO,D3,B9,A7]
def AOi(hR:RH h)(O:h.Now<1000000):RH (zN h)/\Tk ⟨h.AQ,h.Now+1,h.A5,h.AG,h.AJ,h.BF,h.BD⟩ (zN h):=by
 have I:=hR.len;have J:=hR.now;have ew:w64 (h.Now+1)=h.Now+1:=A7 (by omega) (by omega);unfold zN;rw[ew];have ⟨G,H,a3⟩:=tX h.AJ.length 0 (h:=⟨h.AQ,h.Now+1,h.A5,h.AG,h.AJ,h.BF,h.BD⟩) (by dsimp only;omega) (by dsimp only;omega) hR.todo;refine⟨?_,G⟩;generalize LX h.AJ.length 0 (⟨h.AQ,h.Now+1,h.A5,h.AG,h.AJ,h.BF,h.BD⟩:AE)=g at *;have ⟨a,j,y,q,B,E⟩:=G;dsimp only at a j y q B E H a3;have hP:RG h.AQ (h.Now+1) h.A5 h.AG:=⟨hR.Ig.few,λp L=>⟨AEF (hR.Ig.par p L).1 O,(hR.Ig.par p L).2⟩,hR.Ig.ids,hR.Ig.turns⟩;refine RH.mk' (by rw[a];exact hR.rules) (by rw[j];omega) (by rw[y];exact hR.turn) (by rw[q,a];exact hR.Dz) (by rw[a,j,y,B];exact hP) ?_ (by rw[q];exact H) (by rw[q,E];exact hR.F9) (by rw[E,a];exact hR.Oi);intro i hi;have e:i<h.AJ.length:=by omega
 rw[a,j,B,a3 i e,AW (EA _)];have c:=hR.cb e;exact⟨rfl,c.HD,c.total,c.held,c.Jh,c.led,c.room⟩
theorem ADo(e:n<=1048576)(h:J0 l n=true)(i:Nat)(a:-1<=x)(c:x<n):J0 (l.set i x) n=true:=by
 grind[J0,B9,A7]
theorem AMu{who:Int}(E:verdict h ⟨7,who,0,0,0,0⟩=0):RH (V7 h who).1/\(V7 h who).1.AQ=h.AQ:=by
 have hR:=Gx E;have q:=hR.len;have ⟨n,y,e,H⟩:=SO rfl E;dsimp only at e;have eg:h.BD.getD who.toNat 0=h.BD[n]:=by rw[e,Ag,BC,AR y];rfl
 unfold V7;rw[eg];split
 .rename_i j;have B:0<h.BF.length:=by
   grind
  have G:h.BF.getD 0 0=h.BF[0]:=by rw[BC,AR B];rfl
  have a:=oR.1 hR.todo;have c:=a.1 _ (Ak B);rw[A7]at c;have hR1:RH (Eb h (h.BF.drop 1)):=hR.Eb (oR.2 ⟨λk g=>a.1 k (List.mem_of_mem_drop g),a.2.sublist (List.drop_sublist _ _)⟩);refine⟨hR1.Q9 ?_ (by rw[BP];rfl),rfl⟩;rw[G];exact ADo (by show h.AJ.length<=_;omega) hR.F9 _ (by omega) (by show _<(h.AJ.length:Int);omega)
 .rename_i j;have ⟨k,g,ek⟩:=hR.job y j;rw[ek];have ⟨s1,I,J⟩:=WD hR g;have sl:=s1.len;refine⟨s1.Q9 ?_ (by rw[BP]),I.rules⟩;exact ADo (by omega) s1.F9 _ (by omega) (by omega)
theorem AaR(hR:RH h)(q:Bq):RH (doF h q).1/\(doF h q).1.AQ=h.AQ:=by
 unfold doF;by_cases O:verdict h q=0
 .rw[AT (not_not_intro O)];by_cases g:q.Kind=1
  .rw[AW g];unfold cM;by_cases a:verdict h ⟨1,q.Id,q.AZ,q.B0,q.BL,q.DS⟩=0
   .rw[AT (not_not_intro a)];have:=sM a;exact⟨this.1,this.2.1⟩
   .rw[AW a];exact⟨hR,rfl⟩
  rw[AT g];by_cases j:q.Kind=2
  .rw[AW j];unfold PG;by_cases a:verdict h ⟨2,q.Id,0,0,0,0⟩=0
   .rw[AT (not_not_intro a)];refine⟨uK hR (by have:=(Gw a).2.1 rfl;dsimp only at this;omega),?_⟩;unfold cancelled;dsimp only;split<;>exact(Zp _ _).rules
   .rw[AW a];exact⟨hR,rfl⟩
  rw[AT j];by_cases y:q.Kind=3
  .rw[AW y];unfold bu;by_cases a:verdict h ⟨3,0,q.AZ,0,q.BL,0⟩=0
   .rw[AT (not_not_intro a)];have c:=(Gw a).2.2.1 rfl;dsimp only at c;have ⟨_,H,Q⟩:=SN a;have ⟨k,I⟩:=Ai H;have e:k<h.AJ.length:=by omega
    have J:=sU hR e;have L:=B9.1 c.2.1;rw[I]at c ⊢;exact⟨ADY hR e (by omega) (by omega),rfl⟩
   .rw[AW a];exact⟨hR,rfl⟩
  rw[AT y];by_cases B:q.Kind=4
  .rw[AW B];unfold O9;by_cases a:verdict h ⟨4,q.Id,0,0,0,0⟩=0
   .rw[AT (not_not_intro a)];have c:=UH ((Gw a).2.2.2.1 (.inl rfl));refine⟨zk hR c.1 c.2,?_⟩;unfold accepted;dsimp only;split<;>exact(Zp _ _).rules
   .rw[AW a];exact⟨hR,rfl⟩
  rw[AT B];by_cases E:q.Kind=5
  .rw[AW E];unfold Mr;by_cases a:verdict h ⟨5,q.Id,0,0,0,0⟩=0
   .rw[AT (not_not_intro a)];have c:=UH ((Gw a).2.2.2.1 (.inr rfl));exact⟨ADI hR c.1 c.2,(RU h _).rules⟩
   .rw[AW a];exact⟨hR,rfl⟩
  rw[AT E];by_cases G:q.Kind=6
  .rw[AW G];unfold dG;by_cases a:verdict h ⟨6,0,0,0,0,0⟩=0
   .rw[AT (not_not_intro a)];have:=AOi hR ((Gw a).2.2.2.2 rfl);exact⟨this.1,this.2.rules⟩
   .rw[AW a];exact⟨hR,rfl⟩
  .rw[AT G];unfold VO;by_cases a:verdict h ⟨7,q.Id,0,0,0,0⟩=0
   .rw[AT (not_not_intro a)];exact AMu a
   .rw[AW a];exact⟨hR,rfl⟩
 grind
def lJ:∀(l:List Bq) {h:AE},RH h->RH (Dr l h).1/\(Dr l h).1.AQ=h.AQ
 | [],h,hR=>⟨hR,rfl⟩|q::l,h,hR=>by
  have a:=AaR hR q;have c:=lJ l a.1;exact⟨c.1,c.2.trans a.2⟩
end Lv.P
