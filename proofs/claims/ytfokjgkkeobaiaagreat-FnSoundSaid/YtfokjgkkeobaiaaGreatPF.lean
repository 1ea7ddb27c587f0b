/- Plain laws about what the program computes. -/
import Derived.Test.YtfokjgkkeobaiaaGreatKD
import Derived.Test.YtfokjgkkeobaiaaGreatPA
set_option linter.all false
noncomputable section
open Bool renaming and_eq_true->AF,and_false->Dk,not_eq_true'->A8,true_eq_false->DZ
open Int renaming eq_ofNat_of_zero_le->Ah,toNat_natCast->Af,zero_add->GR
open List renaming all_eq_true->CC,any_cons->MZ,any_eq_false->KD,append_assoc->BP,append_nil->CV,cons_append->Bi,drop_eq_nil_of_le->A1,drop_length->Ck,drop_zero->Co,eraseP_cons_of_neg->Hz,eraseP_cons_of_pos->H3,eraseP_sublist->JJ,ext_getElem->H4,filterMap_cons->JK,filter_append->Jr,filter_cons->GB,flatMap_cons->CR,flatten_append->G1,flatten_cons->Fx,foldl_cons->Bs,getD_eq_getElem?_getD->BA,getElem?_eq_getElem->AR,getElem_map->Kf,getElem_mem->Ao,getElem_range->Jt,length_append->AJ,length_cons->AI,length_drop->BH,length_filterMap_le->CW,length_map->Ac,length_nil->AM,length_set->BO,length_take->Ai,map_congr_left->JM,map_cons->AK,map_eq_flatMap->JN,map_id->OC,map_map->DN,mem_append->Bn,mem_cons->Ad,mem_cons_of_mem->Ae,mem_cons_self->BJ,mem_flatten->E7,mem_iff_getElem->C2,mem_or_eq_of_mem_set->Dc,mem_singleton->Dy,nil_append->Bb,pairwise_cons->Bj,pairwise_filterMap->EZ,pairwise_iff_getElem->Cf,pairwise_singleton->H6,perm_middle->Kh,set_eq_take_append_cons_drop->Ff,singleton_append->Ii,take_add_one->CS,take_append_drop->CY,take_of_length_le->BC,take_sublist->Hb
open List.cons renaming injEq->CB
open Nat renaming add_assoc->CT,le_refl->Ab,le_succ->DQ,le_trans->Aw,lt_or_ge->Aa,zero_le->D4
open Option renaming getD_some->DE
namespace Lv.P
open Lv Go
variable{e:A0}{w:A2}{g h:AE}{p:AU}{r:AY}{c:Ag}{q:Bp}{cabin frm id j now tier turn x:Int}{a b ps qs rest:List AU}{S T:List Bc}{l t:List Int}{s:List UInt8}{f i k m n:Nat}{α:Type}
def Yx(w:A2)(p:Bc):A2:=⟨w.Au.set (p.At.tmod 9).toNat (put ltP p (w.Au.getD (p.At.tmod 9).toNat []))⟩
def RA(w:A2)(p:Bc):A2×Bool:=if HL w=true/\Ry p=true/\HL (Yx w p)=true then (Yx w p,true) else (w,false)
theorem Ni{p:Bc}(h:Ry p=true):(1<=p.At/\p.At<=1000008)/\1<=p.Id/\p.Id<=999:=by
 grind[Ry,B8]
theorem cG{n:Int}(h:1<=n):∃k:Nat,k<9/\n.tmod 9=(k:Int):=by
 obtain⟨m,rfl⟩:=Ah (show 0<=n by omega);refine⟨m % 9,Nat.mod_lt _ (by omega),?_⟩;rw[Int.tmod_eq_emod_of_nonneg (by omega)];rfl
theorem ACc{l:List (List α)}(h:k<l.length)(x:List α):(l.set k x).flatten.length+l[k].length=l.flatten.length+x.length:=by
 grind[List.set_eq_take_append_cons_drop,List.take_append_drop,List.drop_eq_getElem_cons]
theorem AWd{l:List (List α)}(h:k<l.length){x:List α}{a:α}(c:a∈x):a∈(l.set k x).flatten:=by
 rw[E7];exact⟨x,List.mem_set h _,c⟩
theorem nq(g:Pg w){p:Bc}(q:1<=p.At):DY (Yx w p)/\p∈(Yx w p).Au.flatten:=by
 have ⟨k,E,e⟩:=cG q;have y:=g.nine;have B:=g.few;unfold Yx;rw[e,Af];have a:k<w.Au.length:=by omega
 have j:=ACc a (put ltP p (w.Au.getD k []));have c:w.Au.getD k []=w.Au[k]:=by simp[List.getD,a]
 rw[c,GH]at j;refine⟨⟨by dsimp only;rw[BO];omega,by dsimp only;rw[c];omega⟩,AWd a (Uk.2 (.inl rfl))⟩
theorem VN(g:DY w)(p:Bc):iG w p=some (RA w p):=by
 unfold iG iH;rw[UJ g,AB,HY g,AB,BM];by_cases hB:HL w=true
 .have hP:=EO.1 hB;rw[hB,BT,AV,BW];by_cases q:p.At<1
  .rw[AW q];unfold RA;rw[AT];rintro⟨_,c,_⟩;have:=Ni c;omega
  .rw[AT q];have ⟨y,E⟩:=nq hP (p:=p) (by omega);have ⟨k,I,e⟩:=cG (n:=p.At) (by omega);have H:=hP.nine;have B:=hP.few;have a:k<w.Au.length:=by omega
   have c:w.Au.getD k []=w.Au[k]:=by simp[List.getD,a]
   have G:=MO a;have j:(A2.mk (w.Au.set k (put ltP p w.Au[k])))=Yx w p:=by unfold Yx;rw[e,Af,c]
   simp only[e,BQ a,AB,V8 (l:=w.Au[k]) (by unfold lim;omega) p,Af,j,HY y,UJ g,BM];unfold RA;cases hB2:HL (Yx w p) with
   |false=>rw[Bd,AT (by simp)]|true=>
    rw[BT,AW ⟨hB,(EO.1 hB2).pins p E,rfl⟩]
 grind[Bd,AV,BT,RA]
theorem VB(G:DY w)(p:Bc):ABP w p=some (RA w p):=by
 unfold ABP iM;rw[UI G,AB,IY G,AB,BM];by_cases hB:HL w=true
 .have hP:=EO.1 hB;rw[hB,BT,Vr,AB,AV,BM];cases E:Ry p with
  |false=>
   rw[Bd];unfold RA;rw[E,AT (by simp)]
  |true=>
   have q:=(Ni E).1.1;rw[BT];have ⟨J,hm⟩:=nq hP q;have ⟨k,hk,e⟩:=cG q;have Z:=hP.nine;have O:=hP.few;have a:k<w.Au.length:=by omega
   have I:w.Au.getD k []=w.Au[k]:=by simp[List.getD,a]
   have X:=MO a;have H:(A2.mk (w.Au.set k (put ltP p w.Au[k])))=Yx w p:=by unfold Yx;rw[e,Af,I]
   have j:∀i:Nat,i<=w.Au[k].length->∀s:List Bc,s=w.Au[k].take i++p::w.Au[k].drop i->iN w p w w.Au[k] (i:Int)=(bd (SQ (A2.mk (w.Au.set k s))) λx=>br (!x) (some (w,false)) (some (A2.mk (w.Au.set k s),true))):=by
    intro i hi s S;have g:AWy w.Au[k] (i:Int) [p]=@some (C.l (.st 5)).D s:=by
     show oD (.st 5) w.Au[k] (i:Int) [p]=some s;have y:(0:Int)<=i/\(i:Int).toNat<=w.Au[k].length/\[p]≠([]:List Bc)/\w.Au[k].length+[p].length<=lim:=⟨by omega,by simpa using hi,by simp,by rw[Nf];unfold lim;omega⟩;unfold oD;refine(AW y).trans ?_;rw[S,Af];congr 1;exact BP _ _ _
    unfold iN;have Q:Y.Pr k 0 [U.sl (C.st 5) s].length [(k,0)]:=⟨rfl,⟨Ab _,by simp⟩,trivial⟩;rw[g];refine(AB (α:=List Bc) s _).trans ?_;simp only[e,BQ a,AB,Af,CE Q,UI G]
   simp only[e,BQ a,AB];have hloop:=Tw (lt:=ltP) (F:=XC w p w w.Au[k]) (l:=w.Au[k]) (x:=p) (λs=>bd (SQ (A2.mk (w.Au.set k s))) λx=>br (!x) (some (w,false)) (some (A2.mk (w.Au.set k s),true))) (by omega) ?_ ?_
   .rw[hloop,H,IY J,AB,BM];unfold RA;cases hB2:HL (Yx w p) with|false=>rw[Bd,AT (by simp)]|true=>rw[BT,AW ⟨hB,E,rfl⟩]
   .intro L i hi;unfold XC XB;have ⟨c,y,B,_⟩:=Nz w.Au[k][i] p;rw[CF hi,BT,BQ hi,AB,y,AB,AV,B,AV,j i (by omega) _ rfl]
   .intro L;unfold XC XB;rw[C0,Bd,AV,Bd,AV,j _ (Ab _) (w.Au[k]++[p]) (by simp)]
 grind[Bd,AV,BT,RA]
theorem AEN(a:DY w)(p:Bc):DY (RA w p).1:=by
 grind[RA,nq,EO,Ni]
def VS:List Bc->A2->A2×Bool| [],w=>(w,true)|p::ps,w=>if (RA w p).2=true then VS ps (RA w p).1 else (⟨[]⟩,false)
def MW(l:List Bc):A2×Bool:=VS l ⟨List.replicate 9 []⟩
theorem nj:DY ⟨List.replicate 9 []⟩:=by constructor<;>simp
theorem si{l:List Bc}{F:(Int×A2->AA (A2×Bool))->Int×A2->AA (A2×Bool)}(hl:l.length<2 ^ 62)
 (step:∀L (i:Nat) (h:i<l.length) w,DY w->F L ((i:Int),w)=br (!(RA w l[i]).2) (some (⟨[]⟩,false)) (L (w64 ((i:Int)+1),(RA w l[i]).1)))
 (stop:∀L w,F L ((l.length:Int),w)=some (w,true)):BE F big (0,⟨List.replicate 9 []⟩)=some (MW l):=by
 refine(DI (n:=l.length) (λi (w:A2)=>((i:Int),w)) (λ_ w=>DY w) (λi w=>some (VS (l.drop i) w)) (by omega) ?_ (v:=⟨List.replicate 9 []⟩) nj).trans (by simp[MW]);intro L i w a hi c;rcases Aa i l.length with h|h
 .rw[step L i h w a,B1 h (by omega),Dl h,VS,BM];cases e:(RA w l[i]).2 with|true=>rw[BT,c _ (AEN a _) h];rfl|false=>rfl
 grind[VS]
theorem yZ{l:List Bc}(hl:l.length<=1048576):AIB l=some (MW l):=by
 unfold AIB;rw[lu,AB];refine si (by omega) ?_ ?_
 .intro L i h w a;unfold gk
  grind[BT,BQ,AB,VN,Cp]
 grind[gk,AA5,Bd,AV]
theorem w9{l:List Bc}(hl:l.length<=1048576):AH8 l=some (MW l):=by
 unfold AH8;rw[lq,AB]
 grind[si,AAz,BT,BQ,AB,VB,AAy,Bd,AV]
theorem sj:∀(l:List Bc) {w:A2},DY w->DY (VS l w).1
 | [],w,a=>a|p::ps,w,a=>by
  unfold VS;split
  .exact sj ps (AEN a p)
  .constructor<;>simp
theorem cH(l:List Bc):DY (MW l).1:=sj l nj
section
variable{α:Type}{lt:α->α->Bool}
theorem He(a:α)(l:List α):Dd lt (a::l)=put lt a (Dd lt l):=rfl
theorem lQ(h:Swo lt)(B:∀a b,lt a b=false->lt b a=false->a=b){g j:List α}(q:g.Perm j):Dd lt g=Dd lt j:=by
 induction q with
 |nil=>rfl|cons x _ E=>rw[He,He,E]|swap x y l=>rw[He,He,He,He,xz h B]|trans _ _ c e=>exact c.trans e
theorem ADT{a:α}{l:List α}(h:∀b∈l,lt b a=false):put lt a l=a::l:=by
 cases l with
 |nil=>rfl|cons z l=>rw[put,AT (by rw[h z (BJ ..)];simp)]
theorem ADU{a:α}:∀{l:List α},(∀b∈l,lt b a=true)->put lt a l=l++[a]
 | [],_=>rfl|z::l,h=>by
  rw[put,AW (h z (BJ ..)),ADU λb c=>h b (Ae _ c)];rfl
theorem sU(h:Swo lt){a z:α}{l:List α}(y:Srt lt (z::l))(j:lt z a=false):∀b∈z::l,lt b a=false:=by
 intro b g;rcases Ad.1 g with rfl|g
 .exact j
 .have q:=(Bj.1 y).1 b g;cases e:lt b a with
  |false=>rfl|true=>
   rcases h.neg b z a e with c|c
   .rw[q]at c;cases c
   .rw[j]at c;cases c
theorem AKM(h:Swo lt)(a:α):∀{l:List α},Srt lt l->Srt lt (put lt a l)
 | [],_=>H6 _ _|z::l,c=>by
  rw[put];split
  .rename_i g;refine Bj.2 ⟨?_,AKM h a (Bj.1 c).2⟩;intro b e;rcases Uk.1 e with rfl|e
   .exact h.tE _ _ g
   .exact(Bj.1 c).1 b e
  .rename_i g;exact Bj.2 ⟨sU h c (by simpa using g),c⟩
theorem Ua(h:Swo lt):∀l:List α,Srt lt (Dd lt l)| []=>List.Pairwise.nil|a::l=>AKM h a (Ua h l)
theorem Ve(h:Swo lt)(q:α->Bool)(a:α):∀{l:List α},Srt lt l->(put lt a l).filter q=if q a=true then put lt a (l.filter q) else l.filter q
 | [],_=>by by_cases e:q a=true<;>simp[put,e]|z::l,c=>by
  have j:=Ve h q a (Bj.1 c).2;rw[put];split
  .grind[put]
  .rename_i g;have habove:=sU h c (by simpa using g);rw[GB]
   grind[ADT]
theorem NX(h:Swo lt)(q:α->Bool):∀l:List α,(Dd lt l).filter q=Dd lt (l.filter q)
 | []=>rfl|a::l=>by
  rw[He,Ve h q a (Ua h l),NX h q l,GB]
  grind[He]
theorem Qg(h:Swo lt):∀{l:List α},(l.Pairwise λa b=>lt a b=true)->Dd lt l=l
 | [],_=>rfl|a::l,c=>by
  rw[He,Qg h (Bj.1 c).2,ADT];intro b e;exact h.tE _ _ ((Bj.1 c).1 b e)
theorem OI(h:Swo lt):∀{l:List α},(∀k (q:k+1<l.length),lt l[k] l[k+1]=true)->l.Pairwise λa b=>lt a b=true
 | [],_=>List.Pairwise.nil| [a],_=>H6 _ _|a::b::l,j=>by
  have y:=OI h (l:=b::l) λk q=>j (k+1) (by simpa using q)
  have g:lt a b=true:=j 0 (by simp);refine Bj.2 ⟨?_,y⟩;intro c e;rcases Ad.1 e with rfl|e
  .exact g
  .exact h.trans g ((Bj.1 y).1 c e)
end
theorem YE{α β:Type}{f g:β->List α}:∀{l:List β},(∀i∈l,(f i).Sublist (g i))->(l.map f).flatten.Sublist (l.map g).flatten
 | [],_=>List.Sublist.slnil|i::l,h=>by
  simp only[AK,Fx];exact(h i (BJ ..)).append (YE λj a=>h j (Ae _ a))
def GY(i:Nat)(p:Bc):Bool:=p.At.tmod 9==(i:Int)
theorem Km{p:Bc}:GY i p=true↔p.At.tmod 9=(i:Int):=by unfold GY;exact beq_iff_eq
theorem WA(E:Pg w)(hi:i<w.Au.length):(w.Au.flatten).filter (GY i)=w.Au[i]:=by
 have g:∀j (a:j<w.Au.length),∀p∈w.Au[j],p.At.tmod 9=(j:Int):=by
  intro j a p c;obtain⟨k,q,rfl⟩:=C2.1 c;exact E.at_ j a k q
 have e:w.Au.flatten=(w.Au.take i).flatten++(w.Au[i]++(w.Au.drop (i+1)).flatten):=by
  conv=>lhs;rw[<-CY i w.Au,List.drop_eq_getElem_cons hi]
  simp only[G1,Fx]
 have G:((w.Au.take i).flatten).filter (GY i)=[]:=by
  grind[List.filter_eq_nil_iff,List.mem_flatten,List.mem_iff_getElem,Km]
 have H:((w.Au.drop (i+1)).flatten).filter (GY i)=[]:=by
  rw[List.filter_eq_nil_iff];intro p c;have ⟨s,B,y⟩:=E7.1 c;obtain⟨j,a,rfl⟩:=C2.1 B
  grind[Km]
 grind[GY,List.filter_eq_self]
def Yw(S:List Bc)(j:Nat):A2:=⟨(List.range 9).map λi=>(S.take j).filter (GY i)⟩
theorem aX{w:A2}(a:Pg w):w=⟨(List.range 9).map λi=>(Dd ltP w.Au.flatten).filter (GY i)⟩:=by
 have e:=a.nine;cases w with
 |mk sp=>
  congr 1;dsimp only at e a ⊢;apply H4
  .simp[e]
  .intro i c g;rw[Kf,Jt,NX FQ,WA a c];exact(Qg FQ (OI FQ (a.srt i c))).symm
theorem AS2(e:Pg w)(j:Nat):Pg (Yw (Dd ltP w.Au.flatten) j):=by
 have c:(Yw (Dd ltP w.Au.flatten) j).Au.flatten.Sublist w.Au.flatten:=by
  conv=>rhs;rw[aX e]
  exact YE λi _=>(Hb _ _).filter _
 have E:∀i (h:i<(Yw (Dd ltP w.Au.flatten) j).Au.length),(Yw (Dd ltP w.Au.flatten) j).Au[i]=((Dd ltP w.Au.flatten).take j).filter (GY i):=by
  intro i h;simp only[Yw,Kf,Jt]
 have q:∀i,i<9->(((Dd ltP w.Au.flatten).take j).filter (GY i)).Pairwise λa b=>ltP a b=true:=by
  intro i hi;have g:i<w.Au.length:=by rw[e.nine];exact hi
  have y:((Dd ltP w.Au.flatten).filter (GY i))=w.Au[i]:=by
   rw[NX FQ,WA e g];exact Qg FQ (OI FQ (e.srt i g))
  refine List.Pairwise.sublist ((Hb _ _).filter _) ?_;rw[y];exact OI FQ (e.srt i g)
 refine⟨by simp[Yw],Aw c.length_le e.few,λp B=>e.pins p (c.subset B),e.ids.sublist c,?_,?_⟩
 .grind[ltP,Km]
 grind[Yw,List.pairwise_iff_getElem]
theorem AU2(y:Pg w){j:Nat}(O:j<(Dd ltP w.Au.flatten).length):Yx (Yw (Dd ltP w.Au.flatten) j) (Dd ltP w.Au.flatten)[j]=Yw (Dd ltP w.Au.flatten) (j+1):=by
 have J:(Dd ltP w.Au.flatten)[j]∈w.Au.flatten:=Qh.1 (Ao O);have ⟨k,Q,e⟩:=cG (Ni (y.pins _ J)).1.1;have X:(Dd ltP w.Au.flatten).Pairwise λa b=>ltP b a=false:=Ua FQ _
 have L:(Dd ltP w.Au.flatten).take (j+1)=(Dd ltP w.Au.flatten).take j++[(Dd ltP w.Au.flatten)[j]]:=by rw[CS,AR O];rfl
 generalize hS:Dd ltP w.Au.flatten=S at *;have g:∀(q:Bc->Bool),q S[j]=true->(∀b∈(S.take j).filter q,ltP b S[j]=true)->put ltP S[j] ((S.take j).filter q)=(S.take (j+1)).filter q:=by
  intro q hq c;rw[ADU c,L,Jr];simp[hq]
 have I:∀b∈(S.take j).filter (GY k),ltP b S[j]=true:=by
  intro b Z;have G:k<w.Au.length:=by rw[y.nine];exact Q
  have B:S.filter (GY k)=w.Au[k]:=by
   rw[<-hS,NX FQ,WA y G];exact Qg FQ (OI FQ (y.srt k G))
  have E:((S.take (j+1)).filter (GY k)).Pairwise λa b=>ltP a b=true:=by
   refine List.Pairwise.sublist ((Hb _ _).filter _) ?_;rw[B];exact OI FQ (y.srt k G)
  rw[L,Jr]at E;have Y:([S[j]]:List Bc).filter (GY k)=[S[j]]:=by simp[Km.2 e]
  rw[Y]at E;exact(List.pairwise_append.1 E).2.2 b Z _ (Dy.2 rfl)
 unfold Yx Yw;rw[e,Af];congr 1;apply H4
 .simp
 .intro i h1 B;have hi:i<9:=by simpa using B
  rw[List.getElem_set];have hD:(((List.range 9).map λi=>(S.take j).filter (GY i)).getD k [])=(S.take j).filter (GY k):=by simp[List.getD,Q]
  split
  .rename_i H;subst H;rw[hD,g _ (Km.2 e) I];simp
  .grind[Km]
theorem oN(c:Pg w):MW (Dd ltP w.Au.flatten)=(w,true):=by
 have key:∀m j,j+m=(Dd ltP w.Au.flatten).length->VS ((Dd ltP w.Au.flatten).drop j) (Yw (Dd ltP w.Au.flatten) j)=(w,true):=by
  intro m
  induction m with
  |zero=>
   grind[VS,Yw,aX]
  |succ m g=>
   intro j q;have a:j<(Dd ltP w.Au.flatten).length:=by omega
   have e:RA (Yw (Dd ltP w.Au.flatten) j) (Dd ltP w.Au.flatten)[j]=(Yw (Dd ltP w.Au.flatten) (j+1),true):=by
    unfold RA;rw[AU2 c a,AW];exact⟨EO.2 (AS2 c j),c.pins _ (Qh.1 (Ao a)),EO.2 (AS2 c (j+1))⟩
   rw[Dl a,VS,e,AW rfl];exact g (j+1) (by omega)
 have:=key (Dd ltP w.Au.flatten).length 0 (by omega);rw[Co]at this;exact this
def Good(h:AE)(l:List Int):Prop:=C9 h=true/\Br h/\Fh h=l
def yz:AY:=⟨[],0,0,0,0,0,0,0,0⟩
def Iz:AE:=⟨yz,0,0,[],[],[],[]⟩
def Red(l:List Int)(r:AE×Bool):Prop:=(r.2=true->Good r.1 l/\∀h,Good h l->h=r.1)/\(r.2=false->r.1=Iz/\∀h,¬Good h l)
theorem Red.one{r r':AE×Bool}(h:Red l r)(j:Red l r'):r=r':=by
 have ⟨g,b⟩:=r;have ⟨g',e⟩:=r';have ⟨q,a⟩:=h;have ⟨y,c⟩:=j;dsimp only at q a y c;cases b<;>cases e
 .rw[(a rfl).1,(c rfl).1]
 .grind
 .grind
 grind
theorem Red.bad(h:∀h,¬Good h l):Red l (Iz,false):=⟨λh=>(by cases h),λ_=>⟨rfl,h⟩⟩
def fr(c:Ag):Int:=c.AX.D1
def up(x:Int):Int:=w64 (x+1)
theorem To(h:AE):Fh h=((Ja h.AQ).length:Int)::(Ja h.AQ++(h.Now::h.A4::(h.AG.length:Int)::(h.AG.flatMap Lf++(h.AH.map fr++((h.BD.length:Int)::(h.BD++h.BB.map up)))))):=by
 have a:∀l:List Ag,l.flatMap (λc=>[c.AX.D1])=l.map fr:=λl=>by rw[JN];rfl
 have e:∀l:List Int,l.flatMap (λx=>[w64 (x+1)])=l.map up:=λl=>by rw[JN];rfl
 grind[Fh]
def lk(r:AY)(ps:List AU)(now:Int)(i:Nat)(free:Int):Ag:=
 ⟨⟨r.AX.getD i 0,free,JV ps i,w64 (w64 (r.AX.getD i 0-free)-JV ps i),Jz ps i⟩,D5 r ps i now,(MW (Gr ps i)).1⟩
theorem AUu(H:n<=4)(h:Hm t n=true):t.length<=n:=by
 by_cases c:t.length<=n
 .exact c
 .exfalso;have a:∀k (B:k<t.length),0<=t[k]/\t[k]<n/\∀j (G:j<k),t[j]≠t[k]:=by
   intro k B;have y:=Jy.1 h k B;unfold SH at y;rw[CX B,AF,B8,A7 (by omega) (by omega)]at y;refine⟨y.1.1,by omega,λj G e=>?_⟩;have E:=y.2;simp only[A8,KD,beq_iff_eq]at E;refine E t[j] ?_ e;rw[C2];exact⟨j,by rw[Ai];omega,by rw[List.getElem_take]⟩
  have I:=a 0 (by omega)
  match n,H,c,a with
  |0,_,c,a=>have:=a 0 (by omega);omega|1,_,c,a=>
   have a0:=a 0 (by omega);have g:=a 1 (by omega);have:=g.2.2 0 (by omega);omega
  |2,_,c,a=>
   have a0:=a 0 (by omega);have g:=a 1 (by omega);have q:=a 2 (by omega);have:=g.2.2 0 (by omega);have:=q.2.2 0 (by omega);have:=q.2.2 1 (by omega);omega
  |3,_,c,a=>
   have a0:=a 0 (by omega);have g:=a 1 (by omega);have q:=a 2 (by omega);have a3:=a 3 (by omega);have:=g.2.2 0 (by omega);have:=q.2.2 0 (by omega);have:=q.2.2 1 (by omega);have:=a3.2.2 0 (by omega);have:=a3.2.2 1 (by omega);have:=a3.2.2 2 (by omega);omega
  |4,_,c,a=>
   have a0:=a 0 (by omega);have g:=a 1 (by omega);have q:=a 2 (by omega);have a3:=a 3 (by omega);have a4:=a 4 (by omega)
   grind
structure Aam(h:AE):Prop where
 rules:Ds h.AQ=true
 EA:1<=h.AQ.AX.length/\h.AQ.AX.length<=4
 Aan:1<=h.AQ.C4/\h.AQ.C4<=3
 few:h.AG.length<=40
 par:∀i (hi:i<h.AG.length),Dw h.AQ h.AG[i] h.Now=true
 Dt:h.AH.length=h.AQ.AX.length
 cab:∀i (hi:i<h.AH.length),h.AH[i]=lk h.AQ h.AG h.Now i (fr h.AH[i])/\0<=fr h.AH[i]/\fr h.AH[i]<=h.AQ.AX.getD i 0/\DW h.AG i<=10
 todo:h.BD.length<=h.AQ.AX.length
 Od:(h.BB.length:Int)=h.AQ.C4
 job:∀x∈h.BB,-1<=x/\x<4
theorem xx(a:HL w=true):(MW (E6 w)).1=w:=by
 unfold E6;rw[AW a,oN (EO.1 a)]
theorem Nl(O:C9 h=true):Aam h:=by
 have ⟨q,h2,h3,E,G,H,I,J,L,g⟩:=Jk O;have j:=CL q;have hcrew:1<=h.AQ.C4/\h.AQ.C4<=3:=j.2.2.2.2.2.2.2.2.2;refine⟨q,j.1,hcrew,E,?_,G,?_,?_,L,?_⟩
 .intro i hi;have:=Jy.1 H i hi;unfold bh at this;rw[CX hi,AF]at this;exact this.1
 .intro i hi;have y:i<h.AQ.AX.length:=by omega
  have a:=Jy.1 g i hi;unfold WU at a;rw[CX hi,CX y]at a;unfold KR Lj El at a;simp only[AF,beq_iff_eq,B8,A8,decide_eq_false_iff_not,ID dO,ID dP]at a;have ⟨S,⟨⟨⟨l1,l2,l3,l4,l5,l6⟩,k3,X⟩,Y,Z,k7,k8⟩,k9⟩:=a;have hD:h.AQ.AX.getD i 0=h.AQ.AX[i]:=by simp[List.getD,y]
  have hroom:=j.2.2.1;have B:=xx X;rw[Z]at B;unfold lk fr;rw[hD,<-Y,<-k7,<-k8,<-S,B];generalize h.AH[i]=c at *;have ⟨⟨t,f,e,s,td⟩,row,wh⟩:=c;dsimp only at *;have e1:w64 (f+e)=f+e:=A7 (by omega) (by omega);have e2:w64 (f+e+s)=f+e+s:=A7 (by omega) (by omega)
  grind[A7]
 .have:=AUu (by omega) I;omega
 .intro x Q;have:=CC.1 J x Q;rw[B8,A7 (by omega) (by omega)]at this;omega
def LI(l:List Int):AY×Bool:=
 match l with
 |a::b::c::d::e::f::g::i::x::s=>if Ds ⟨x::s,a,b,c,d,e,f,g,i⟩=true then (⟨x::s,a,b,c,d,e,f,g,i⟩,true) else (yz,false)|_=>(yz,false)
theorem mi(h:(LI l).2=true):Ds (LI l).1=true/\Ja (LI l).1=l:=by
 unfold LI at *;split at h
 .split at h
  .rename_i a;rw[AW a];exact⟨a,rfl⟩
  .cases h
 .cases h
theorem Nm{r:AY}(j:Ds r=true):LI (Ja r)=(r,true):=by
 have q:=(CL j).1.1;have ⟨s,a,b,c,d,e,f,g,i⟩:=r
 match s,q with
 |x::s,_=>
  show (if Ds _=true then _ else _)=_;rw[AW j]
theorem yY{l:List Int}(hl:l.length<=1048576):AH9 l=some (LI l):=by
 unfold AH9
 match l,hl with
 | [],_=>rfl| [_],_=>rfl| [_,_],_=>rfl| [_,_,_],_=>rfl| [_,_,_,_],_=>rfl| [_,_,_,_,_],_=>rfl| [_,_,_,_,_,_],_=>rfl| [_,_,_,_,_,_,_],_=>rfl| [_,_,_,_,_,_,_,_],_=>rfl|a::b::c::d::e::f::g::i::x::s,hl=>
  simp only[AI]at hl;have Q:(x::s).length<2 ^ 62:=by simp only[AI];omega
  rw[BW,AT (by simp only[AI];omega)];have j:at? (a::b::c::d::e::f::g::i::x::s) 0=some a:=rfl;have q:at? (a::b::c::d::e::f::g::i::x::s) 1=some b:=rfl;have y:at? (a::b::c::d::e::f::g::i::x::s) 2=some c:=rfl;have B:at? (a::b::c::d::e::f::g::i::x::s) 3=some d:=rfl;have E:at? (a::b::c::d::e::f::g::i::x::s) 4=some e:=rfl;have G:at? (a::b::c::d::e::f::g::i::x::s) 5=some f:=rfl;have H:at? (a::b::c::d::e::f::g::i::x::s) 6=some g:=rfl;have I:at? (a::b::c::d::e::f::g::i::x::s) 7=some i:=rfl;have J:List.drop (Int.toNat 8) (a::b::c::d::e::f::g::i::x::s)=x::s:=rfl;have L:(0:Int)<=8/\(8:Int)<=((a::b::c::d::e::f::g::i::x::s).length:Int):=by simp only[AI];omega
  have hlim:lim=268435456:=rfl;have O:0+(x::s).length<=lim:=by simp only[AI];omega
  simp only[j,q,y,B,E,G,H,I,J,AB,CE L,CE O,Cp,Lk,Ll,Lm,Lo,K5,Lp,Lq,Bb,Ie (r:=⟨x::s,a,b,c,d,e,f,g,i⟩) Q,BM];unfold LI;dsimp only;cases Ds ⟨x::s,a,b,c,d,e,f,g,i⟩<;>rfl
theorem w8{l:List Int}(hl:l.length<=1048576):AIK l=some (LI l):=by
 unfold AIK
 match l,hl with
 | [],_=>rfl| [_],_=>rfl| [_,_],_=>rfl| [_,_,_],_=>rfl| [_,_,_,_],_=>rfl| [_,_,_,_,_],_=>rfl| [_,_,_,_,_,_],_=>rfl| [_,_,_,_,_,_,_],_=>rfl| [_,_,_,_,_,_,_,_],_=>rfl|a::b::c::d::e::f::g::i::x::s,hl=>
  simp only[AI]at hl;have Q:(x::s).length<2 ^ 62:=by simp only[AI];omega
  rw[BW,AT (by simp only[AI];omega)];have j:at? (a::b::c::d::e::f::g::i::x::s) 0=some a:=rfl;have q:at? (a::b::c::d::e::f::g::i::x::s) 1=some b:=rfl;have y:at? (a::b::c::d::e::f::g::i::x::s) 2=some c:=rfl;have B:at? (a::b::c::d::e::f::g::i::x::s) 3=some d:=rfl;have E:at? (a::b::c::d::e::f::g::i::x::s) 4=some e:=rfl;have G:at? (a::b::c::d::e::f::g::i::x::s) 5=some f:=rfl;have H:at? (a::b::c::d::e::f::g::i::x::s) 6=some g:=rfl;have I:at? (a::b::c::d::e::f::g::i::x::s) 7=some i:=rfl;have J:List.drop (Int.toNat 8) (a::b::c::d::e::f::g::i::x::s)=x::s:=rfl;have L:(0:Int)<=8/\(8:Int)<=((a::b::c::d::e::f::g::i::x::s).length:Int):=by simp only[AI];omega
  have O:K0 (x::s)=some (x::s):=WX (by simp only[AI];omega);simp only[j,q,y,B,E,G,H,I,J,AB,CE L,O,Cp,Lk,Ll,Lm,Lo,K5,Lp,Lq,HS (r:=⟨x::s,a,b,c,d,e,f,g,i⟩) Q,BM];unfold LI;dsimp only;cases Ds ⟨x::s,a,b,c,d,e,f,g,i⟩<;>rfl
theorem AVt(x y:Int):(x==y)=true↔x=y:=beq_iff_eq
theorem Je{a b:List Int}(hl:a.length<2 ^ 62):gl a b=some (Eu (·==·) a b):=by
 grind[gl,T0,AA7,BT,BQ,AB,AA6,Bd,AV]
theorem PN{a b:List Int}(hl:a.length<2 ^ 62):gX a b=some (Eu (·==·) a b):=by
 grind[gX,T0,AA1,BT,BQ,AB,AA0,Bd,AV]
def rd(l:List Int)(k:Nat)(b:Bool):Df:=⟨l,(k:Int),b⟩
theorem xL{b:Bool}(hl:l.length<=1048576)(q:k<=l.length) :
 ∃n a c,av (rd l k b)=some (n,rd l a c)/\a<=l.length/\∀x rest,l.drop k=x::rest->n=x/\l.drop a=rest/\c=b:=by
 unfold av;rw[BW];rcases Aa k l.length with h|h
 .rw[AT (show ¬((rd l k b).at_>=((rd l k b).Ti.length:Int)) from by show ¬((k:Int)>=(l.length:Int));omega)];have g:w64 ((k:Int)+1)=((k+1:Nat):Int):=B1 h (by omega);have j:w64 (((k+1:Nat):Int)-1)=(k:Int):=by rw[A7 (by omega) (by omega)];omega
  show ∃n a c,(bd (at? l (w64 (w64 ((k:Int)+1)-1))) λy=>some (y,Df.mk l (w64 ((k:Int)+1)) b))=_/\_;rw[g,j,BQ h,AB];refine⟨_,k+1,b,rfl,by omega,λx rest e=>?_⟩
  grind[Dl]
 .rw[AW (show (rd l k b).at_>=((rd l k b).Ti.length:Int) from by show (k:Int)>=(l.length:Int);omega)];refine⟨0,k,true,rfl,q,λx rest e=>?_⟩;rw[A1 h]at e;cases e
theorem cY{l:List Int}{k:Nat}{b:Bool}(hl:l.length<=1048576)(B:k<=l.length){m:Int}(E:0<=m) :
 ∃n a c,aw (rd l k b) m=some (n,rd l a c)/\a<=l.length/\0<=n/\n<=m/\∀x rest,l.drop k=x::rest->0<=x->x<=m->n=x/\l.drop a=rest/\c=b:=by
 have ⟨n,a,c,g,j,y⟩:=xL (b:=b) hl B;unfold aw;rw[g,AB,GX,AB,BM];cases e:inB n 0 m with
 |true=>
  rw[B8]at e;exact⟨n,a,c,rfl,j,e.1,e.2,λx rest q _ _=>y x rest q⟩
 |false=>
  refine⟨0,a,true,rfl,j,by omega,E,λx rest q G g=>?_⟩
  grind[inB]
theorem xP{b:Bool}(hl:l.length<=1048576)(Z:k<=l.length)(hn:n<=1048576) :
 ∃xs a e,ax (rd l k b) (n:Int)=some (xs,rd l a e)/\a<=l.length/\xs.length=n/\∀ys rest,l.drop k=ys++rest->ys.length=n->xs=ys/\l.drop a=rest/\e=b:=by
 unfold ax;have key:=Xm (F:=gj (n:Int)) (n:=n) (λi (v:List Int×Nat×Bool)=>(v.1,(i:Int),rd l v.2.1 v.2.2))
  (λi v=>v.1.length=i/\v.2.1<=l.length/\∀ys rest,l.drop k=ys++rest->ys.length=n->v.1=ys.take i/\l.drop v.2.1=ys.drop i++rest/\v.2.2=b)
  (λr:List Int×Df=>∃a e,r.2=rd l a e/\a<=l.length/\r.1.length=n/\∀ys rest,l.drop k=ys++rest->ys.length=n->r.1=ys/\l.drop a=rest/\e=b) (by omega) ?_ (v:=([],k,b)) ⟨rfl,Z,λys rest h _=>⟨by simp,by simpa using h,rfl⟩⟩
 .have ⟨r,hr,a,e,y,S,X,Y⟩:=key;exact⟨r.1,a,e,by rw[<-y];exact hr,S,X,Y⟩
 .rintro L i ⟨xs,q,c⟩ ⟨B,E,G⟩ hi H;dsimp only at B E G H ⊢;unfold gj;dsimp only;rcases Aa i n with h|h
  .have ⟨x,q',I,J,O,Q⟩:=xL (b:=c) hl E;have hlim:lim=268435456:=rfl;rw[CF h,BT,J,AB,CE (by rw[Nf];omega),B1 h (by omega)];refine H (xs++[x],q',I) ⟨by simp[B],O,λys rest hy j=>?_⟩ h;have ⟨p1,p2,p3⟩:=G ys rest hy j;have g:i<ys.length:=by omega
   rw[Dl g]at p2;have ⟨u1,u2,u3⟩:=Q _ _ p2;refine⟨?_,u2,u3.trans p3⟩;rw[p1,u1,CS,AR g];rfl
  .obtain rfl:i=n:=by omega
   rw[C0,Bd,AV];unfold AA4
   grind
theorem ten{α:Type}{l:List α}(h:l.length=10):∃a b c d e f g i j k,l=[a,b,c,d,e,f,g,i,j,k]:=by
 match l,h with
 | [a,b,c,d,e,f,g,i,j,k],_=>exact⟨a,b,c,d,e,f,g,i,j,k,rfl⟩
theorem AWK{b:Bool}(hl:l.length<=1048576)(hk:k<=l.length) :
 ∃p E G,AIA (rd l k b)=some (p,rd l E G)/\E<=l.length/\∀(q:AU) rest,l.drop k=Lf q++rest -> -1<=q.Bz->q.Bz<=1048576->p=q/\l.drop E=rest/\G=b:=by
 have ⟨xs,E,G,h1,h2,h3,h4⟩:=xP (b:=b) hl hk (n:=10) (by omega);obtain⟨a0,c,a,a3,a4,e,g,j,y,B,rfl⟩:=ten h3;unfold AIA;rw[show (10:Int)=((10:Nat):Int) from rfl,h1,AB];have H:at? [a0,c,a,a3,a4,e,g,j,y,B] 0=some a0:=rfl;have I:at? [a0,c,a,a3,a4,e,g,j,y,B] 1=some c:=rfl;have J:at? [a0,c,a,a3,a4,e,g,j,y,B] 2=some a:=rfl;have L:at? [a0,c,a,a3,a4,e,g,j,y,B] 3=some a3:=rfl;have O:at? [a0,c,a,a3,a4,e,g,j,y,B] 4=some a4:=rfl;have Q:at? [a0,c,a,a3,a4,e,g,j,y,B] 5=some e:=rfl;have S:at? [a0,c,a,a3,a4,e,g,j,y,B] 6=some g:=rfl;have X:at? [a0,c,a,a3,a4,e,g,j,y,B] 7=some j:=rfl;have Y:at? [a0,c,a,a3,a4,e,g,j,y,B] 8=some y:=rfl;have Z:at? [a0,c,a,a3,a4,e,g,j,y,B] 9=some B:=rfl;simp only[H,I,J,L,O,Q,S,X,Y,Z,AB,OZ];refine⟨_,E,G,rfl,h2,λq rest hq hf hf2=>?_⟩;have ⟨p1,p2,p3⟩:=h4 (Lf q) rest hq rfl;refine⟨?_,p2,p3⟩;unfold Lf at p1;simp only[CB,and_true]at p1;have ⟨q0,q1,q2,q3,q4,q5,q6,q7,q8,q9⟩:=p1;rw[A7 (by omega) (by omega)]at q2;have hfrom:w64 ((if a>0 then a else 0)-1)=q.Bz:=by
  grind[A7]
 rw[hfrom,q0,q1,q3,q4,q5,q6,q7,q8,q9]
def tl4(g:AE):List Int:=(g.BD.length:Int)::(g.BD++g.BB.map up)
def tl3(g:AE)(i:Nat):List Int:=(g.AH.drop i).map fr++tl4 g
def tl2(g:AE)(i:Nat):List Int:=(g.AG.drop i).flatMap Lf++tl3 g 0
theorem rJ(h:Good g l):l=((Ja g.AQ).length:Int)::(Ja g.AQ++(g.Now::g.A4::(g.AG.length:Int)::tl2 g 0)):=by
 rw[<-h.2.2,To];simp only[tl2,tl3,tl4,Co]
def Hd(g:AE)(R:AY)(now turn:Int):Prop:=g.AQ=R/\g.Now=now/\g.A4=turn
theorem rM{R:AY}(hR:h.AQ=R):AE.mk (AY.mk R.AX R.CZ R.Room R.BK R.CI R.B6 R.Rest R.Cg R.C4) h.Now h.A4 h.AG h.AH h.BD h.BB=h:=by
 subst hR;rfl
theorem Q0{a b:List Int}:Eu (·==·) a b=true↔a=b:=ID AVt
def jb(j:Int):Int:=w64 ((if j > -5 then j else -5)-1)
theorem AZF(h:-1<=x)(a:x<4):jb (up x)=x:=by
 unfold jb up
 grind[A7]
section spec
variable{l:List Int}(hl:l.length<=1048576){R:AY×Bool}{now turn:Int}
include hl
theorem AZh{x:List Int×Df}{h:AE}(hR:h.AQ=R.1)(e:Br h)(c:∀g,Good g l->g=h/\x.2.zK=false) :
 ∃r,S8 l R x ((),R.1.CZ,R.1.Room,R.1.BK,R.1.CI,R.1.B6,R.1.Rest,R.1.Cg,R.1.C4,h.Now,h.A4,h.AG,h.AH,h.BD,h.BB)=some r/\Red l r:=by
 unfold S8 XF;dsimp only;rw[rM hR];cases q:x.2.zK with
 |true=>
  rw[BT,AV,BT];exact⟨_,rfl,Red.bad λg a=>by have:=(c g a).2;rw[q]at this;cases this⟩
 |false=>
  rw[Bd,Gm e,AB,BM];cases hB:C9 h with
  |false=>
   rw[Bd,AV,BT];exact⟨_,rfl,Red.bad λg a=>by rw[(c g a).1]at a;rw[a.1]at hB;cases hB⟩
  |true=>
   have B:=Ud e hB;rw[BT,sT e hB,AB,Je (by omega),AB,AV,BM];cases j:Eu (·==·) (Fh h) l with
   |true=>
    rw[BT];exact⟨_,rfl,λ_=>⟨⟨hB,e,Q0.1 j⟩,λg a=>(c g a).1⟩,λy=>by cases y⟩
   |false=>
    rw[Bd];refine⟨_,rfl,Red.bad λg a=>?_⟩;rw[(c g a).1]at a;rw[Q0.2 a.2.2]at j;cases j
theorem AZk{x:List Int×Df}{ps:List AU}{cs:List Ag}{td:List Int}(g:x.1.length<=1048576) :
 BE (iV l R x) big (0,(),R.1.CZ,R.1.Room,R.1.BK,R.1.CI,R.1.B6,R.1.Rest,R.1.Cg,R.1.C4,now,turn,ps,cs,td,[]) =
  S8 l R x ((),R.1.CZ,R.1.Room,R.1.BK,R.1.CI,R.1.B6,R.1.Rest,R.1.Cg,R.1.C4,now,turn,ps,cs,td,x.1.map jb):=by
 refine DI (n:=x.1.length) (λi (v:List Int)=>((i:Int),(),R.1.CZ,R.1.Room,R.1.BK,R.1.CI,R.1.B6,R.1.Rest,R.1.Cg,R.1.C4,now,turn,ps,cs,td,v)) (λi v=>v=(x.1.take i).map jb)
  (λ_ _=>S8 l R x ((),R.1.CZ,R.1.Room,R.1.BK,R.1.CI,R.1.B6,R.1.Rest,R.1.Cg,R.1.C4,now,turn,ps,cs,td,x.1.map jb)) (by omega) ?_ (v:=[]) (by simp)
 intro L i v a hi e;unfold iV;dsimp only;rcases Aa i x.1.length with h|h
 .have hlim:lim=268435456:=rfl;have c:v.length<=1048576:=by rw[a,Ac,Ai];omega
  simp only[CF h,BT,BQ h,AB,OZ,B1 h (by omega:x.1.length<2 ^ 63)];rw[CE (by rw[Nf];omega)];refine e _ ?_ h;rw[a,CS,AR h,List.map_append];rfl
 grind[Bd,AV]
theorem AZg(hr:Ds R.1=true){ps:List AU}{cs:List Ag}{k:Nat}{b:Bool}(hk:k<=l.length)(B:ps.length<=1048576)(q:cs.length<=1048576)(j:∀c∈cs,FP c)
 (ha:∀g,Good g l->Hd g R.1 now turn/\g.AG=ps/\g.AH=cs/\l.drop k=tl4 g/\b=false) :
 ∃r,iT l R ((),R.1.CZ,R.1.Room,R.1.BK,R.1.CI,R.1.B6,R.1.Rest,R.1.Cg,R.1.C4,now,turn,ps,cs,[],[],rd l k b)=some r/\Red l r:=by
 have E:=CL hr;have hcrew:=E.2.2.2.2.2.2.2.2.2;unfold iT;dsimp only;have ⟨nt,k1,J,O,Q,S,e4,X⟩:=cY (b:=b) hl hk (m:=(R.1.AX.length:Int)) (by omega);obtain⟨n,rfl⟩:=Ah S;have ⟨td,k2,G,Y,Z,f3,f4⟩:=xP (b:=J) hl Q (n:=n) (by omega);have ⟨c,H⟩:=Ah (show 0<=R.1.C4 by omega);have ⟨js,k3,L,g1,g2,g3,g4⟩:=xP (b:=G) hl Z (n:=c) (by omega);rw[O,AB];dsimp only;rw[Y,AB];dsimp only;have e:ax (rd l k2 G) R.1.C4=some (js,rd l k3 L):=by rw[H];exact g1
 rw[e,AB];rw[AZk hl (by dsimp only;omega)];refine AZh hl (h:=⟨R.1,now,turn,ps,cs,td,js.map jb⟩) rfl ⟨by dsimp only;omega,B,q,j,by dsimp only;omega,by dsimp only;rw[Ac];omega⟩ ?_;intro g I;have ⟨⟨q1,q2,q3⟩,q4,q5,q6,q7⟩:=ha g I;have a:=Nl I.1;have ⟨u1,u2,u3⟩:=X _ _ q6 (by omega) (by have:=a.todo;rw[q1]at this;omega);have ⟨v1,v2,v3⟩:=f4 _ _ u2 (by omega);have ⟨w1,w2,w3⟩:=g4 (g.BB.map up) [] (by rw[v2,CV]) (by rw[Ac];have:=a.Od;rw[q1,H]at this;omega);have hj:js.map jb=g.BB:=by
  rw[w1,DN]
  conv=>rhs;rw[<-OC g.BB]
  apply JM;intro y hy;have:=a.job y hy;exact AZF this.1 this.2
 refine⟨?_,by dsimp only[rd];rw[w3,v3,u3,q7]⟩;rw[hj,v1];cases g
 grind
theorem AZj(X:Ds R.1=true){ps:List AU}{k:Nat}{b:Bool}(hk:k<=l.length)(hps:ps.length<=40)
 (ha:∀g,Good g l->Hd g R.1 now turn/\g.AG=ps/\l.drop k=tl3 g 0/\b=false) :
 ∃r,iS l R ((),R.1.CZ,R.1.Room,R.1.BK,R.1.CI,R.1.B6,R.1.Rest,R.1.Cg,R.1.C4,now,turn,ps,[],[],[],rd l k b)=some r/\Red l r:=by
 have O:=CL X;unfold iS;dsimp only;refine Xm (n:=R.1.AX.length) (λi (v:List Ag×Nat×Bool)=>((i:Int),(),R.1.CZ,R.1.Room,R.1.BK,R.1.CI,R.1.B6,R.1.Rest,R.1.Cg,R.1.C4,now,turn,ps,v.1,[],[],rd l v.2.1 v.2.2))
  (λi v=>v.1.length=i/\(∀c∈v.1,FP c)/\v.2.1<=l.length/\∀g,Good g l->Hd g R.1 now turn/\g.AG=ps/\v.1=g.AH.take i/\l.drop v.2.1=tl3 g i/\v.2.2=false)
  (Red l) (by omega) ?_ (v:=([],k,b)) ⟨rfl,by simp,hk,λg j=>by have ⟨h1,h2,h3,h4⟩:=ha g j;exact⟨h1,h2,by simp,h3,h4⟩⟩
 rintro L i ⟨cs,q,c⟩ ⟨S,gf,H,I⟩ hi Y;dsimp only at S gf H I Y ⊢;unfold ABS;dsimp only;rcases Aa i R.1.AX.length with h|h
 .have hseat:=O.2.2.2.2.2.1 _ (Ao h);have hD:R.1.AX.getD i 0=R.1.AX[i]:=by simp[List.getD,h]
  have ⟨a,q',c',e1,e2,e3,e4,e5⟩:=cY (b:=c) hl H (m:=R.1.AX[i]) (by omega);have J:(Gr ps (i:Int)).length<=1048576:=by
   unfold Gr;rw[Jl];have:=CW (ND (i:Int)) ps;omega
  have hlim:lim=268435456:=rfl;rw[CF h,BT,BQ h];simp only[AB,e1,cA (show ps.length<=1048576 by omega),yZ J,bz (show ps.length<2 ^ 58 by omega),cB (show ps.length<2 ^ 58 by omega),Cp,Lk,Ll,Lm,Lo,K5,Lp,Lq,SC (r:=R.1) (show R.1.AX.length<2 ^ 62 by omega) (show ps.length<=1048576 by omega)];rw[CE (by rw[Nf];omega),B1 h (by omega)];have B:Ag.mk (BN.mk R.1.AX[i] a (JV ps i) (w64 (w64 (R.1.AX[i]-a)-JV ps i)) (Jz ps i)) (D5 R.1 ps i now) (MW (Gr ps i)).1=lk R.1 ps now i a:=by unfold lk;rw[hD]
  rw[B];refine Y (cs++[lk R.1 ps now i a],q',c') ⟨by simp[S],?_,e2,λg j=>?_⟩ h
  .intro x E;rcases Bn.1 E with E|E
   .exact gf x E
   .rw[Dy.1 E];refine⟨?_,cH _⟩;unfold lk D5;dsimp only;rw[Jl];have:=CW (MH R.1 (i:Int) now) ps;omega
  .have ⟨⟨p1,p2,p3⟩,p4,p5,G,Q⟩:=I g j;have e:=Nl j.1;have y:i<g.AH.length:=by rw[e.Dt,p1];exact h
   have ⟨w1,w2,Z,w4⟩:=e.cab i y;unfold tl3 at G;rw[Dl y,AK]at G;have ⟨u1,u2,u3⟩:=e5 _ _ G w2 (by rw[p1,hD]at Z;exact Z);refine⟨⟨p1,p2,p3⟩,p4,?_,u2,u3.trans Q⟩;rw[CS,AR y,p5,u1];rw[p1,p4,p2]at w1
   conv=>rhs;rw[w1]
   rfl
 .obtain rfl:i=R.1.AX.length:=by omega
  rw[C0,Bd,AV];refine AZg hl X H (by omega) (by omega) gf λg j=>?_
  have ⟨p1,p4,p5,G,Q⟩:=I g j;have e:=Nl j.1;have hn:g.AH.length=R.1.AX.length:=by rw[e.Dt,p1.1]
  refine⟨p1,p4,?_,?_,Q⟩
  .rw[p5,BC (by omega)]
  .rw[G];unfold tl3;rw[A1 (by omega)];rfl
theorem AZi(Y:Ds R.1=true){n:Int}{x:Int×Df}(hx:x.1=n)(O:0<=n)(hn:n<=40){k:Nat}{b:Bool}(hk:k<=l.length)
 (ha:∀g,Good g l->Hd g R.1 now turn/\(g.AG.length:Int)=n/\l.drop k=tl2 g 0/\b=false) :
 ∃r,BE (iU l R x) big (0,(),R.1.CZ,R.1.Room,R.1.BK,R.1.CI,R.1.B6,R.1.Rest,R.1.Cg,R.1.C4,now,turn,[],[],[],[],rd l k b)=some r/\Red l r:=by
 have hrl:=CL Y;obtain⟨m,rfl⟩:=Ah O;refine Xm (n:=m) (λi (v:List AU×Nat×Bool)=>((i:Int),(),R.1.CZ,R.1.Room,R.1.BK,R.1.CI,R.1.B6,R.1.Rest,R.1.Cg,R.1.C4,now,turn,v.1,[],[],[],rd l v.2.1 v.2.2))
  (λi v=>v.1.length=i/\v.2.1<=l.length/\∀g,Good g l->Hd g R.1 now turn/\g.AG.length=m/\v.1=g.AG.take i/\l.drop v.2.1=tl2 g i/\v.2.2=false)
  (Red l) (by omega) ?_ (v:=([],k,b)) ⟨rfl,hk,λg a=>by have ⟨h1,h2,h3,h4⟩:=ha g a;exact⟨h1,by omega,by simp,h3,h4⟩⟩
 rintro L i ⟨ps,q,c⟩ ⟨X,J,B⟩ hi Z;dsimp only at X J B Z ⊢;unfold iU;dsimp only;rw[hx];rcases Aa i m with h|h
 .have ⟨p,q',S,e1,e2,e3⟩:=AWK (b:=c) hl J;rw[CF h,BT,e1,AB];dsimp only;rw[Np (by omega),AB,BM];have E:∀g,Good g l->p=g.AG.getD i ⟨0,0,0,0,0,0,0,0,0,0⟩/\i<g.AG.length/\l.drop q'=tl2 g (i+1)/\S=false:=by
   intro g a;have ⟨p1,p2,p3,p4,p5⟩:=B g a;have j:i<g.AG.length:=by omega
   have G:=FB ((Nl a.1).par i j);have hs:=(CL G.1).1;unfold tl2 at p4;rw[Dl j,CR,BP]at p4;have ⟨H,y,I⟩:=e3 _ _ p4 G.2.2.2.2.1.1 (by omega);refine⟨?_,j,y,I.trans p5⟩;rw[H];simp[List.getD,j]
  cases Q:Dw R.1 p now with
  |true=>
   have hlim:lim=268435456:=rfl;rw[BT,CE (by rw[Nf];omega),B1 h (by omega)];refine Z (ps++[p],q',S) ⟨by simp[X],e2,λg a=>?_⟩ h;have ⟨p1,p2,p3,p4,p5⟩:=B g a;have ⟨H,y,I,u4⟩:=E g a;refine⟨p1,p2,?_,I,u4⟩;rw[CS,AR y,p3,H];simp[List.getD,y]
  |false=>
   rw[Bd];refine⟨_,rfl,Red.bad λg a=>?_⟩;have ⟨p1,p2,p3,p4,p5⟩:=B g a;have ⟨H,y,I,u4⟩:=E g a;have:=(Nl a.1).par i y;rw[H]at Q;have e:g.AG.getD i ⟨0,0,0,0,0,0,0,0,0,0⟩=g.AG[i]:=by simp[List.getD,y]
   rw[e,<-p1.1,<-p1.2.1,this]at Q;cases Q
 .obtain rfl:i=m:=by omega
  rw[C0,Bd,AV];refine AZj hl Y J (by omega) λg a=>?_
  have ⟨p1,p2,p3,p4,p5⟩:=B g a;refine⟨p1,?_,?_,p5⟩
  .rw[p3,BC (by omega)]
  .rw[p4];unfold tl2;rw[A1 (by omega)];rfl
end spec
theorem yS{l:List Int}(hl:l.length<=1048576):∃r,ABR l=some r/\Red l r:=by
 unfold ABR;have ⟨sz,k1,y,J,L,a3,a4,O⟩:=cY (l:=l) (k:=0) (b:=false) hl (D4 _) (m:=12) (by omega);obtain⟨s,rfl⟩:=Ah a3;obtain⟨xs,k2,B,X,Y,c3,c4⟩:=xP (b:=y) hl L (n:=s) (by omega);have j:aw (Df.mk l 0 false) 12=some ((s:Int),rd l k1 y):=J;rw[j,AB];dsimp only;rw[X,AB];dsimp only;rw[yY (by omega),AB,BM];have e:∀g,Good g l->xs=Ja g.AQ/\l.drop k2=g.Now::g.A4::(g.AG.length:Int)::tl2 g 0/\B=false:=by
  intro g c;have hn:=rJ c;have E:=MI g.AQ;have a:=Nl c.1;obtain⟨G,H,I⟩:=O _ _ (by rw[Co];exact hn) (by omega) (by have:=a.EA;omega)
  grind
 cases hR:(LI xs).2 with
 |false=>
  rw[Bd];refine⟨_,rfl,Red.bad λg c=>?_⟩;rw[(e g c).1,Nm (Nl c.1).rules]at hR;cases hR
 |true=>
  rw[BT];have q:=(mi hR).1;have ⟨n1,k3,Q,Z,d2,d3⟩:=xL (b:=B) hl Y;have ⟨n2,k4,S,f1,f2,f3⟩:=xL (b:=Q) hl d2;have ⟨n3,k5,b5,g1,g2,g3,g4,g5⟩:=cY (b:=S) hl f2 (m:=40) (by omega);simp only[Z,AB,Cp,Lk,Ll,Lm,Lo,K5,Lp,Lq,yv,f1,g1];refine AZi hl q (now:=n1) (turn:=n2) rfl g3 g4 g2 λg c=>?_
  have ⟨q1,q2,q3⟩:=e g c;have a:=Nl c.1;have ⟨G,H,I⟩:=d3 _ _ q2;have ⟨v1,v2,v3⟩:=f3 _ _ H;have ⟨w1,w2,w3⟩:=g5 _ _ v2 (by omega) (by have:=a.few;omega);refine⟨⟨?_,G.symm,v1.symm⟩,w1.symm,w2,by rw[w3,v3,I,q3]⟩;rw[q1,Nm a.rules]
theorem lH(a:r.AX.length<2 ^ 62){l:List AU}(hl:l.length<=40)(c now:Int):∃q,ak r l c now=some q/\q.length<=40/\(DW l c<=19->q=D5 r l c now):=by
 by_cases e:DW l c<=19
 .refine⟨_,Rk a (by omega) e now,?_,λ_=>rfl⟩;unfold D5;rw[Jl];have:=CW (MH r c now) l;omega
 .have hlim:lim=268435456:=rfl;unfold ak;rw[collect (l:=l) (MH r c now) So (by omega) ?_ ?_]
  .unfold So;have:=CW (MH r c now) l;have ⟨x,E,g⟩:=nK (l:=l.filterMap (MH r c now)) (by omega)
   grind[AB]
  .intro L i h v B;unfold Sp Wb Wc MH;dsimp only;rw[CF h,BT,BQ h,AB,Na a,AB,AV,AV,CE (by rw[Nf];omega),AV,AV];cases j:(FH r l[i] now).2<;>cases y:l[i].AZ==c<;>simp
  .intro L v;unfold Sp;dsimp only;rw[C0,Bd,AV]
theorem oA{l:List AU}(hl:l.length<=40)(c:Int):∃q,fK l c=some q/\q.length<=40/\(DW l c<=19->q=Gr l c):=by
 by_cases a:DW l c<=19
 .refine⟨_,bU (by omega) a,?_,λ_=>rfl⟩;unfold Gr;rw[Jl];have:=CW (ND c) l;omega
 .have hlim:lim=268435456:=rfl;unfold fK;rw[collect (l:=l) (ND c) Su (by omega) ?_ ?_]
  .unfold Su;have:=CW (ND c) l;have ⟨x,B,e⟩:=yf (l:=l.filterMap (ND c)) (by omega)
   grind[AB]
  .intro L i h v y;unfold Sv Wm Wn ND;dsimp only;rw[CF h,BT,BQ h,AB,AV,AV,CE (by rw[Nf];omega),AV,AV];cases g:l[i].State==2<;>cases j:l[i].AZ==c<;>simp
  .intro L v;unfold Sv;dsimp only;rw[C0,Bd,AV]
theorem T8{r:List Int}(c:r.length<=1048576):∃xs r',LR (n:Int) r=some (xs,r')/\r'.length<=1048576/\(n<=10->xs.length=n)/\(n<=r.length->xs.length=n)/\xs.length<=n /\
 ∀ys a,r=ys++a->ys.length=n->xs=ys/\r'=a:=by
 grind[LR,iL,BW,AV,lim,CE,Int.toNat_natCast]
theorem AGc{α:Type}{l:List α}(h:l.length=1):∃a,l=[a]:=by
 match l,h with
 | [a],_=>exact⟨a,rfl⟩
theorem three{α:Type}{l:List α}(h:l.length=3):∃a b c,l=[a,b,c]:=by
 match l,h with
 | [a,b,c],_=>exact⟨a,b,c,rfl⟩
section impl
variable{l:List Int}(hl:l.length<=1048576){R:AY×Bool}{now turn:Int}
include hl
theorem AY9{h:AE}(hR:h.AQ=R.1)(c:Br h)(e:∀g,Good g l->g=h) :
 ∃r,S6 l R ((),R.1.CZ,R.1.Room,R.1.BK,R.1.CI,R.1.B6,R.1.Rest,R.1.Cg,R.1.C4,h.Now,h.A4,h.AG,h.AH,h.BD,h.BB)=some r/\Red l r:=by
 unfold S6 gb;dsimp only;rw[rM hR,Fz c,AB,BM];cases hB:C9 h with
 |false=>
  rw[Bd,AV,BT];exact⟨_,rfl,Red.bad λg a=>by rw[e g a]at a;rw[a.1]at hB;cases hB⟩
 |true=>
  have y:=Ud c hB;rw[BT,ALT c hB,AB,PN (by omega),AB,AV,BM];cases j:Eu (·==·) (Fh h) l with
  |true=>
   rw[BT];exact⟨_,rfl,λ_=>⟨⟨hB,c,Q0.1 j⟩,λg a=>e g a⟩,λq=>by cases q⟩
  |false=>
   rw[Bd];refine⟨_,rfl,Red.bad λg a=>?_⟩;rw[e g a]at a;rw[Q0.2 a.2.2]at j;cases j
theorem AZC{x:List Int×List Int}{ps:List AU}{cs:List Ag}{td:List Int}(c:x.1.length<=1048576) :
 BE (gi l R x) big (0,(),R.1.CZ,R.1.Room,R.1.BK,R.1.CI,R.1.B6,R.1.Rest,R.1.Cg,R.1.C4,now,turn,ps,cs,td,[]) =
  S6 l R ((),R.1.CZ,R.1.Room,R.1.BK,R.1.CI,R.1.B6,R.1.Rest,R.1.Cg,R.1.C4,now,turn,ps,cs,td,x.1.map (λj=>w64 (j-1))):=by
 refine DI (n:=x.1.length) (λi (v:List Int)=>((i:Int),(),R.1.CZ,R.1.Room,R.1.BK,R.1.CI,R.1.B6,R.1.Rest,R.1.Cg,R.1.C4,now,turn,ps,cs,td,v)) (λi v=>v=(x.1.take i).map (λj=>w64 (j-1)))
  (λ_ _=>S6 l R ((),R.1.CZ,R.1.Room,R.1.BK,R.1.CI,R.1.B6,R.1.Rest,R.1.Cg,R.1.C4,now,turn,ps,cs,td,x.1.map (λj=>w64 (j-1)))) (by omega) ?_ (v:=[]) (by simp)
 intro L i v a hi e;unfold gi;dsimp only;rcases Aa i x.1.length with h|h
 .grind[lim,BT,BQ,AB,B1,CE,List.take_add_one]
 grind[Bd,AV]
theorem AY8(hr:Ds R.1=true){ps:List AU}{cs:List Ag}{rest:List Int}(hk:rest.length<=1048576)(L:ps.length<=1048576)(J:cs.length<=1048576)(I:∀c∈cs,FP c)
 (S:∀g,Good g l->Hd g R.1 now turn/\g.AG=ps/\g.AH=cs/\rest=tl4 g) :
 ∃r,ga l R (rest,(),R.1.CZ,R.1.Room,R.1.BK,R.1.CI,R.1.B6,R.1.Rest,R.1.Cg,R.1.C4,now,turn,ps,cs,[],[])=some r/\Red l r:=by
 have O:=CL hr;have hcrew:=O.2.2.2.2.2.2.2.2.2;unfold ga;dsimp only;have ⟨a,r1,e1,e2,e3,_,_,e4⟩:=T8 (n:=1) hk;obtain⟨nt,rfl⟩:=AGc (e3 (by omega));have G:LR 1 rest=some ([nt],r1):=e1;rw[G,AB,show at? [nt] 0=some nt from rfl,AB,GJ,AB,BM];have B:∀g,Good g l->nt=(g.BD.length:Int)/\r1=g.BD++g.BB.map up:=by
  intro g e;have ⟨q1,Y,Z,Q⟩:=S g e;have ⟨u1,u2⟩:=e4 [(g.BD.length:Int)] (g.BD++g.BB.map up) (by rw[Q];rfl) rfl;cases u1;exact⟨rfl,u2⟩
 cases q:inB nt 0 4 with
 |false=>
  rw[Bd];refine⟨_,rfl,Red.bad λg e=>?_⟩;have:=(Nl e.1).todo;have:=(Nl e.1).EA;have:inB nt 0 4=true:=by rw[B8,(B g e).1];omega
  rw[q]at this;cases this
 |true=>
  rw[BT];rw[B8]at q;obtain⟨n,rfl⟩:=Ah q.1;have ⟨td,r2,f1,f2,f3,_,_,f4⟩:=T8 (n:=n) e2;rw[f1,AB,WX (by have:=f3 (by omega);dsimp only;omega),AB];have ⟨c,X⟩:=Ah (show 0<=R.1.C4 by omega);have ⟨js,r3,g1,g2,g3,_,_,g4⟩:=T8 (n:=c) f2;have H:LR R.1.C4 r2=some (js,r3):=by rw[X];exact g1
  have hjl:=g3 (by omega);have htl:=f3 (by omega);rw[H,AB];rw[AZC hl (by dsimp only;omega)];refine AY9 hl (h:=⟨R.1,now,turn,ps,cs,td,js.map (λj=>w64 (j-1))⟩) rfl ⟨by dsimp only;omega,L,J,I,by dsimp only;omega,by dsimp only;rw[Ac];omega⟩ ?_;intro g e;have ⟨⟨q1,Y,Z⟩,Q,q5,q6⟩:=S g e;have ⟨p1,p2⟩:=B g e;have E:=Nl e.1;have ⟨v1,v2⟩:=f4 _ _ p2 (by omega);have ⟨w1,w2⟩:=g4 (g.BB.map up) [] (by rw[v2,CV]) (by rw[Ac];have:=E.Od;rw[q1,X]at this;omega);have hj:js.map (λj=>w64 (j-1))=g.BB:=by
   rw[w1,DN]
   conv=>rhs;rw[<-OC g.BB]
   apply JM;intro y hy;have:=E.job y hy;show w64 (w64 (y+1)-1)=y;rw[A7 (n:=y+1) (by omega) (by omega),A7 (by omega) (by omega)];omega
  rw[hj,v1];cases g;dsimp only at *;rw[q1,Y,Z,Q,q5]
theorem AZB(Q:Ds R.1=true){ps:List AU}{rest:List Int}(hk:rest.length<=1048576)(B:ps.length<=40)
 (ha:∀g,Good g l->Hd g R.1 now turn/\g.AG=ps/\rest=tl3 g 0) :
 ∃r,gY l R (rest,(),R.1.CZ,R.1.Room,R.1.BK,R.1.CI,R.1.B6,R.1.Rest,R.1.Cg,R.1.C4,now,turn,ps,[],[],[])=some r/\Red l r:=by
 have hrl:=CL Q;unfold gY;dsimp only;refine Xm (n:=R.1.AX.length) (λi (v:List Ag×List Int)=>((i:Int),v.2,(),R.1.CZ,R.1.Room,R.1.BK,R.1.CI,R.1.B6,R.1.Rest,R.1.Cg,R.1.C4,now,turn,ps,v.1,[],[]))
  (λi v=>v.1.length=i/\(∀c∈v.1,FP c)/\v.2.length<=1048576/\∀g,Good g l->Hd g R.1 now turn/\g.AG=ps/\v.1=g.AH.take i/\v.2=tl3 g i)
  (Red l) (by omega) ?_ (v:=([],rest)) ⟨rfl,by simp,hk,λg j=>by have ⟨h1,h2,h3⟩:=ha g j;exact⟨h1,h2,by simp,h3⟩⟩
 rintro L i ⟨cs,q⟩ ⟨O,gf,I,J⟩ hi S;dsimp only at O gf I J S ⊢;unfold AA3;dsimp only;rcases Aa i R.1.AX.length with h|h
 .have hD:R.1.AX.getD i 0=R.1.AX[i]:=by simp[List.getD,h]
  have ⟨a,q',X,Y,Z,_,_,e4⟩:=T8 (n:=1) I;obtain⟨f,rfl⟩:=AGc (Z (by omega));have H:LR 1 q=some ([f],q'):=X;have ⟨qu,u1,u2,u3⟩:=lH (r:=R.1) (show R.1.AX.length<2 ^ 62 by omega) B (i:Int) now;have ⟨pi,v1,v2,v3⟩:=oA B (i:Int);have hlim:lim=268435456:=rfl;rw[CF h,BT,BQ h];simp only[AB,H,show at? [f] 0=some f from rfl,u1,v1,w9 (show pi.length<=1048576 by omega),bS (show ps.length<2 ^ 58 by omega),bV (show ps.length<2 ^ 58 by omega),Cp,Lk,Ll,Lm,Lo,K5,Lp,Lq];rw[CE (by rw[Nf];omega),B1 h (by omega)];refine S (cs++[Ag.mk (BN.mk R.1.AX[i] f (JV ps i) (w64 (w64 (R.1.AX[i]-f)-JV ps i)) (Jz ps i)) qu (MW pi).1],q') ⟨by simp[O],?_,Y,λg j=>?_⟩ h
  .intro x E;rcases Bn.1 E with E|E
   .exact gf x E
   .rw[Dy.1 E];exact⟨by dsimp only;omega,cH _⟩
  .have ⟨⟨p1,p2,p3⟩,p4,p5,G⟩:=J g j;have e:=Nl j.1;have y:i<g.AH.length:=by rw[e.Dt,p1];exact h
   have ⟨w1,w2,w3,w4⟩:=e.cab i y;unfold tl3 at G;rw[Dl y,AK]at G;have ⟨x1,x2⟩:=e4 [fr g.AH[i]] (((g.AH.drop (i+1)).map fr)++tl4 g) (by rw[G];rfl) rfl;cases x1;refine⟨⟨p1,p2,p3⟩,p4,?_,x2⟩
   grind[List.take_add_one,lk]
 .obtain rfl:i=R.1.AX.length:=by omega
  rw[C0,Bd,AV];refine AY8 hl Q I (by omega) (by omega) gf λg j=>?_
  have ⟨p1,p4,p5,G⟩:=J g j;have e:=Nl j.1;have hn:g.AH.length=R.1.AX.length:=by rw[e.Dt,p1.1]
  refine⟨p1,p4,?_,?_⟩
  .rw[p5,BC (by omega)]
  .rw[G];unfold tl3;rw[A1 (by omega)];rfl
theorem AZA(Z:Ds R.1=true){n:Int}{x:List Int×List Int}(hx:at? x.1 2=some n)(Q:0<=n)(hn:n<=40){rest:List Int}(hk:rest.length<=1048576)
 (ha:∀g,Good g l->Hd g R.1 now turn/\(g.AG.length:Int)=n/\rest=tl2 g 0) :
 ∃r,BE (gh l R x) big (0,rest,(),R.1.CZ,R.1.Room,R.1.BK,R.1.CI,R.1.B6,R.1.Rest,R.1.Cg,R.1.C4,now,turn,[],[],[],[])=some r/\Red l r:=by
 have hrl:=CL Z;obtain⟨m,rfl⟩:=Ah Q;refine Xm (n:=m) (λi (v:List AU×List Int)=>((i:Int),v.2,(),R.1.CZ,R.1.Room,R.1.BK,R.1.CI,R.1.B6,R.1.Rest,R.1.Cg,R.1.C4,now,turn,v.1,[],[],[]))
  (λi v=>v.1.length=i/\v.2.length<=1048576/\∀g,Good g l->Hd g R.1 now turn/\g.AG.length=m/\v.1=g.AG.take i/\v.2=tl2 g i)
  (Red l) (by omega) ?_ (v:=([],rest)) ⟨rfl,hk,λg H=>by have ⟨h1,h2,h3⟩:=ha g H;exact⟨h1,by omega,by simp,h3⟩⟩
 rintro L i ⟨ps,q⟩ ⟨X,O,Y⟩ hi ih;dsimp only at X O Y ih ⊢;unfold gh;dsimp only;rw[hx,AB];rcases Aa i m with h|h
 .have ⟨xs,q',e1,e2,e3,_,_,e4⟩:=T8 (n:=10) O;obtain⟨a0,c,a,a3,a4,e,j,y,B,E,rfl⟩:=ten (e3 (by omega));have J:LR 10 q=some ([a0,c,a,a3,a4,e,j,y,B,E],q'):=e1;have f0:at? [a0,c,a,a3,a4,e,j,y,B,E] 0=some a0:=rfl;have f1:at? [a0,c,a,a3,a4,e,j,y,B,E] 1=some c:=rfl;have f2:at? [a0,c,a,a3,a4,e,j,y,B,E] 2=some a:=rfl;have f3:at? [a0,c,a,a3,a4,e,j,y,B,E] 3=some a3:=rfl;have f4:at? [a0,c,a,a3,a4,e,j,y,B,E] 4=some a4:=rfl;have f5:at? [a0,c,a,a3,a4,e,j,y,B,E] 5=some e:=rfl;have f6:at? [a0,c,a,a3,a4,e,j,y,B,E] 6=some j:=rfl;have f7:at? [a0,c,a,a3,a4,e,j,y,B,E] 7=some y:=rfl;have f8:at? [a0,c,a,a3,a4,e,j,y,B,E] 8=some B:=rfl;have f9:at? [a0,c,a,a3,a4,e,j,y,B,E] 9=some E:=rfl;rw[CF h,BT,J];simp only[f0,f1,f2,f3,f4,f5,f6,f7,f8,f9,AB];have hlim:lim=268435456:=rfl;rw[CE (by rw[Nf];omega),B1 h (by omega)];refine ih (ps++[⟨a0,c,w64 (a-1),a3,a4,e,j,y,B,E⟩],q') ⟨by simp[X],e2,λg H=>?_⟩ h;have ⟨p1,p2,p3,p4⟩:=Y g H;have G:i<g.AG.length:=by omega
  have I:=FB ((Nl H.1).par i G);have hs:=(CL I.1).1;have hf:=I.2.2.2.2.1;unfold tl2 at p4;rw[Dl G,CR,BP]at p4;have ⟨S,u2⟩:=e4 (Lf g.AG[i]) _ p4 rfl;refine⟨p1,p2,?_,u2⟩;rw[CS,AR G,p3];dsimp only;congr 1;show [_]=[g.AG[i]];congr 1;unfold Lf at S;simp only[CB,and_true]at S;have ⟨q0,q1,q2,q3,q4,q5,q6,q7,q8,q9⟩:=S;have hfrom:w64 (a-1)=g.AG[i].Bz:=by
   rw[q2,A7 (n:=g.AG[i].Bz+1) (by omega) (by omega),A7 (by omega) (by omega)];omega
  rw[hfrom,q0,q1,q3,q4,q5,q6,q7,q8,q9]
 .obtain rfl:i=m:=by omega
  rw[C0,Bd,AV];refine AZB hl Z O (by omega) λg H=>?_
  grind[tl2]
end impl
theorem wa{l:List Int}(hl:l.length<=1048576):∃r,AA2 l=some r/\Red l r:=by
 unfold AA2;have ⟨a,J,a1,a2,a3,_,_,a4⟩:=T8 (n:=1) hl;obtain⟨sz,rfl⟩:=AGc (a3 (by omega));have S:LR 1 l=some ([sz],J):=a1;rw[S,AB,show at? [sz] 0=some sz from rfl,AB,GJ,AB,BM];have B:∀g,Good g l->sz=((Ja g.AQ).length:Int)/\J=Ja g.AQ++(g.Now::g.A4::(g.AG.length:Int)::tl2 g 0):=by
  intro g c;have ⟨O,I⟩:=a4 [((Ja g.AQ).length:Int)] _ (rJ c) rfl;cases O;exact⟨rfl,I⟩
 have hbadE:∀(_:∀g,¬Good g l),∃r,Sz l ([sz],J) sz true=some r/\Red l r:=by
  intro Y;unfold Sz;rw[BT];exact⟨_,rfl,Red.bad Y⟩
 cases L:inB sz 9 12 with
 |false=>
  rw[Bd,AV];refine hbadE λg c=>?_
  have h1:=MI g.AQ;have h2:=(Nl c.1).EA;have:inB sz 9 12=true:=by rw[B8,(B g c).1];omega
  rw[L]at this;cases this
 |true=>
  rw[B8]at L;rw[BT,AV];obtain⟨s,rfl⟩:=Ah (show 0<=sz by omega);dsimp only;by_cases E:(s:Int)>(J.length:Int)
  .rw[show decide ((s:Int)>(J.length:Int))=true from decide_eq_true E];refine hbadE λg c=>?_
   have ⟨O,I⟩:=B g c;rw[I,AJ]at E;omega
  .rw[show decide ((s:Int)>(J.length:Int))=false from decide_eq_false E];unfold Sz;rw[Bd];have ⟨xs,r2,c1,c2,_,c3,_,c4⟩:=T8 (n:=s) a2;have hxl:=c3 (by omega);rw[c1,AB];dsimp only;rw[w8 (by omega),AB,BM];have e:∀g,Good g l->xs=Ja g.AQ/\r2=g.Now::g.A4::(g.AG.length:Int)::tl2 g 0:=by
    intro g c;have ⟨O,I⟩:=B g c;exact c4 _ _ I (by omega)
   cases hR:(LI xs).2 with
   |false=>
    rw[Bd];refine⟨_,rfl,Red.bad λg c=>?_⟩;rw[(e g c).1,Nm (Nl c.1).rules]at hR;cases hR
   |true=>
    rw[BT];have Z:=(mi hR).1;have ⟨ys,r3,d1,d2,d3,_,_,d4⟩:=T8 (n:=3) c2;obtain⟨G,H,q,rfl⟩:=three (d3 (by omega));have X:LR 3 r2=some ([G,H,q],r3):=d1;have y:∀g,Good g l->G=g.Now/\H=g.A4/\q=(g.AG.length:Int)/\r3=tl2 g 0:=by
     intro g c;have ⟨O,I⟩:=e g c;have ⟨Q,v2⟩:=d4 [g.Now,g.A4,(g.AG.length:Int)] (tl2 g 0) (by rw[I];rfl) rfl;simp only[CB,and_true]at Q;exact⟨Q.1,Q.2.1,Q.2.2,v2⟩
    rw[X,AB];dsimp only;rw[show at? [G,H,q] 0=some G from rfl,AB,show at? [G,H,q] 1=some H from rfl,AB,show at? [G,H,q] 2=some q from rfl,AB,GJ,AB,BM];cases j:inB q 0 40 with
    |false=>
     rw[Bd];refine⟨_,rfl,Red.bad λg c=>?_⟩;have h2:=(Nl c.1).few;have:inB q 0 40=true:=by rw[B8,(y g c).2.2.1];omega
     rw[j]at this;cases this
    |true=>
     rw[BT];rw[B8]at j;refine AZA hl Z (x:=([G,H,q],r3)) rfl j.1 j.2 d2 λg c=>?_
     have ⟨q1,q2,q3,q4⟩:=y g c;refine⟨⟨?_,q1.symm,q2.symm⟩,q3.symm,q4⟩;rw[(e g c).1,Nm (Nl c.1).rules]
theorem sx(hl:l.length<=1048576):∃r,ABR l=some r/\AA2 l=some r/\Red l r:=by
 have ⟨r,c,a⟩:=yS hl;have ⟨r',e,g⟩:=wa hl;exact⟨r,c,by rw[e,g.one a],a⟩
theorem MQ:Br Iz:=by constructor<;>simp[Iz,yz]
theorem Red.fit{l:List Int}{r:AE×Bool}(h:Red l r):Br r.1:=by
 cases e:r.2 with
 |true=>exact(h.1 e).1.2.1|false=>rw[(h.2 e).1];exact MQ
theorem ASv:∀{l:List Int},(∀n∈l,okN n)->l.length<=(pL l).length
 | [],_=>by simp|n::l,h=>by
  have c:=ASv λm a=>h m (Ae _ a)
  have e:=mM (h n (BJ ..));have:pL (n::l)=pN n++pL l:=rfl;rw[this,AJ,AI];omega
structure AU5(s:List UInt8)(r:AE×Int×Bool):Prop where
 yes:r.2.2=true->C9 r.1=true/\Br r.1/\DC r.1 r.2.1=s
 no:r.2.2=false->r=(Iz,0,false)
 all:∀h q,C9 h=true->Br h->rdL (s.length+1) (s.drop 4)=some (q::Fh h)->DC h q=s->5<=s.length->r=(h,q,true)
theorem AU5.fit{s:List UInt8}{r:AE×Int×Bool}(h:AU5 s r):Br r.1:=by
 cases e:r.2.2 with
 |true=>exact(h.yes e).2.1|false=>rw[h.no e];exact MQ
theorem AWW(h:rdL f s=some l):l.length<=s.length/\(s≠[]->l≠[]):=by
 have ⟨a,c⟩:=YX f s l h;refine⟨by rw[a];exact ASv c,λe hl=>?_⟩;rw[hl]at a;exact e a
theorem ADf{g:Nat}(h:rdL f s=some l)(e:s.length<g):rdL g s=some l:=by
 have ⟨a,c⟩:=YX f s l h
 grind[yB]
theorem MR{s:List UInt8}(hs:s.length<=1048576):∃r,ABU s=some r/\az s=some r/\AU5 s r:=by
 unfold ABU az XG iX;by_cases h5:s.length<5
 .rw[BW,BW,AW (by omega),AW (by omega),AV,BT];exact⟨_,rfl,rfl,⟨λh=>(by cases h),λ_=>rfl,λ_ _ _ _ _ _ h=>absurd h (by omega)⟩⟩
 have Q:(0:Int)<=4/\(4:Int)<=(s.length:Int):=by omega
 have hd:List.drop (Int.toNat 4) s=s.drop 4:=rfl;have y:(s.drop 4).length<=1048576:=by rw[BH];omega
 rw[BW,BW,AT (by omega),AT (by omega),AV,CE Q,CE Q,hd,Xw y,Yn y,AB,AB];have zz:AU5 s (Iz,0,false)\/True:=.inr trivial;cases e:rdL ((s.drop 4).length+1) (s.drop 4) with
 |none=>
  refine⟨(Iz,0,false),?_,rfl,⟨λh=>(by cases h),λ_=>rfl,λh q _ _ c _ _=>?_⟩⟩
  .rw[BW];split<;>rfl
  .rw[ADf c (by omega)]at e;cases e
 |some l=>
  have ⟨l1,l2⟩:=AWW e;have E:=l2 (by rw[<-List.length_pos_iff,BH];omega);obtain⟨q,t,rfl⟩:∃q t,l=q::t:=by
   cases l with
   |nil=>exact(E rfl).elim|cons q t=>exact⟨q,t,rfl⟩
  have H:t.length<=1048576:=by simp only[AI]at l1;omega
  have g1:(0:Int)<=1/\(1:Int)<=((q::t).length:Int):=by simp only[AI];omega
  have G:List.take ((q::t).length-Int.toNat 1) (List.drop (Int.toNat 1) (q::t))=t:=by
   show List.take ((q::t).length-1) t=t;exact BC (by simp only[AI];omega)
  have a0:at? (q::t) 0=some q:=rfl;have ⟨r,i1,i2,I⟩:=sx H;have X:=I.fit;have a:∀h p,rdL (s.length+1) (s.drop 4)=some (p::Fh h)->p=q/\Fh h=t:=by
   intro h p c;rw[ADf c (by omega)]at e;cases e;exact⟨rfl,rfl⟩
  unfold iW;simp only[AGj,BM,BT,CE g1,G,i1,i2,AB,a0,Is X q,Pw X q];cases Y:r.2 with
  |false=>
   simp only[Bd,AV,BT];refine⟨(Iz,0,false),?_,rfl,⟨λh=>(by cases h),λ_=>rfl,λh p g j c _ _=>?_⟩⟩
   .rw[BW];split<;>rfl
   .exact((I.2 Y).2 h ⟨g,j,(a h p c).2⟩).elim
  |true=>
   simp only[BT,AV];have ⟨⟨Z,c2,c3⟩,O⟩:=I.1 Y;by_cases hT:DC r.1 q=s
   .have B:=FE r.1 q;rw[hT]at B;rw[show (DC r.1 q != s)=false from by simp[hT],Bd,BW,AT (by omega)];refine⟨_,rfl,rfl,⟨λ_=>⟨Z,c2,hT⟩,λh=>(by cases h),λh p g j c _ _=>?_⟩⟩;have ⟨J,L⟩:=a h p c;rw[J,O h ⟨g,j,L⟩]
   .rw[show (DC r.1 q != s)=true from by simp[hT],BT];refine⟨(Iz,0,false),?_,rfl,⟨λh=>(by cases h),λ_=>rfl,λh p g j c S _=>?_⟩⟩
    .rw[BW];split<;>rfl
    .have ⟨J,L⟩:=a h p c;rw[J,O h ⟨g,j,L⟩]at S;exact(hT S).elim
def Cd(s:Bo)(k:Int):B4:=if (k.tmod 2==0)=true then s.Eo else s.Odd
theorem IK(s:Bo)(k:Int):ABT s k=some (Cd s k):=by unfold ABT Cd br;split<;>rfl
theorem JW(s:Bo)(k:Int):ABV s k=some (Cd s k):=by unfold ABV Cd br;split<;>rfl
theorem FM(s:Bo)(k:Int):∃r,Hi s k=some r/\K1 s k=some r/\Br r.1:=by
 unfold Hi K1;rw[IK,JW,AB,AB,IJ,FZ,AB,AB,BM,BM];cases h:Ec (Cd s k) with
 |false=>exact⟨_,rfl,rfl,MQ⟩|true=>
  unfold Ec at h;rw[AF,decide_eq_true_iff,B8]at h;have ⟨r,a,c,e⟩:=MR (s:=List.take (Cd s k).Safe.toNat (Cd s k).Data) (by rw[Ai];omega);rw[BT,BT,CE h.2,CE h.2,a,c,AB];exact⟨r,rfl,rfl,e.fit⟩
theorem Ji{α:Type}(p:α->Bool):∀(l:List α) (s:Nat),(atF p l s = -1/\l.eraseP p=l/\l.any p=false) \/
 ∃k,∃h:k<l.length,atF p l s=((s+k:Nat):Int)/\l.eraseP p=l.take k++l.drop (k+1)/\l.any p=true/\p l[k]=true
 | [],s=>.inl ⟨rfl,rfl,rfl⟩|x::l,s=>by
  by_cases h:p x=true
  .grind[atF]
  .have g:p x=false:=by simpa using h
   rcases Ji p l (s+1) with ⟨a,c,e⟩|⟨k,q,a,c,e,j⟩
   .grind[atF]
   grind[atF]
theorem VK{l:List A0}(hl:l.length<=1048576)(id:Int):iQ l id=some (l.eraseP (λx=>x.Id==id),l.any λx=>x.Id==id):=by
 grind[lim,iQ,SB,AB,BW,Ji,T7,A7,CE]
theorem V6{l:List AU}(hl:l.length<=1048576)(id:Int):py l id=some (atF (λx=>x.Id==id) l 0):=by
 grind[py,RG,ABM,BT,BQ,AB,ABL,Bd,AV]
theorem oI{l:List AU}(hl:l.length<=1048576)(id:Int):AIL l id=some (l.eraseP (λx=>x.Id==id)):=by
 have hlim:lim=268435456:=rfl;unfold AIL;rw[V6 hl,AB,BW];rcases Ji (λx:AU=>x.Id==id) l 0 with ⟨a,c,e⟩|⟨k,g,a,c,e,_⟩
 .grind[CE]
 grind[A7,CE]
def l8(l:BN)(n a b c d:Int):BN×Bool:=
 let l':BN:=⟨l.Total,w64 (l.D1+w64 (a*n)),w64 (l.FL+w64 (b*n)),w64 (l.GA+w64 (c*n)),w64 (l.GZ+w64 (d*n))⟩
 if El l=true/\inB n 0 60=true/\El l'=true then (l',true) else (l,false)
theorem Ks(l:BN)(n a b c d:Int):XK l n a b c d=some (l8 l n a b c d):=by
 unfold XK ig l8
 grind[P3,GX,AB,AV,Bw]
theorem oJ(l:BN)(n:Int):AIV l n=some (l8 l n 0 0 0 1):=by unfold AIV;rw[Ks,AB]
theorem cR(l:BN)(n:Int):AIM l n=some (l8 l n 0 0 0 (-1)):=by unfold AIM;rw[Ks,AB]
theorem nE(l:BN)(n:Int):ABm l n=some (l8 l n (-1) 1 0 0):=by unfold ABm;rw[Ks,AB]
theorem nC(l:BN)(n:Int):AIX l n=some (l8 l n 1 (-1) 0 0):=by unfold AIX;rw[Ks,AB]
theorem nF(l:BN)(n:Int):AIa l n=some (l8 l n 0 (-1) 1 0):=by unfold AIa;rw[Ks,AB]
theorem nD(l:BN)(n:Int):AIO l n=some (l8 l n 1 0 (-1) 0):=by unfold AIO;rw[Ks,AB]
def isP(p:Bc)(x:Bc):Bool:=x.At==p.At&&(x.Id==p.Id&&true)
def Uy(w:A2)(p:Bc):A2×Bool:=
 if HL w=true/\1<=p.At then (⟨w.Au.set (p.At.tmod 9).toNat ((w.Au.getD (p.At.tmod 9).toNat []).eraseP (isP p))⟩,(w.Au.getD (p.At.tmod 9).toNat []).any (isP p)) else (w,false)
theorem VM(q:DY w)(p:Bc):qA w p=some (Uy w p):=by
 have hlim:lim=268435456:=rfl;have J:=q.1;have y:=q.2;unfold qA Uy;rw[UJ q,AB,HY q,AB,BM,AV,AV,Bw];by_cases c:HL w=true
 .rw[AW c];unfold iO;rw[BW];by_cases E:p.At<1
  .rw[AW E,AT (by omega)]
  .rw[AT E,AW ⟨c,by omega⟩];have ⟨m,S,e⟩:=cG (n:=p.At) (by omega);have hW:=EO.1 c;have a:m<w.Au.length:=by have:=hW.1;omega
   have I:w.Au[m].length<=1048576:=Aw (MO a) y;rw[e,Af];have H:w.Au.getD m []=w.Au[m]:=by rw[BA,AR a];rfl
   rw[H];generalize g:w.Au[m]=s at I ⊢;have key:=DI (F:=XD w p w) (n:=s.length) (λi (_:Unit)=>(i:Int)) (λ_ _=>True)
    (λi _=>some (if (s.drop i).any (isP p)=true then ((⟨w.Au.set m (s.take i++(s.drop i).eraseP (isP p))⟩:A2),true) else (w,false))) (by omega) ?_ (v:=()) trivial
   .have key':BE (XD w p w) big 0=_:=key;rw[key'];simp only[Co,List.take_zero,Bb];split
    .rename_i h;rw[h]
    .rename_i h;have B:s.any (isP p)=false:=by simpa using h
     have G:s.eraseP (isP p)=s:=List.eraseP_of_forall_not λx O=>by
      have:=KD.1 B x O;simpa using this
     rw[B,G,<-g,List.set_getElem_self]
   .intro L i _ _ hi Q;unfold XD ABQ;rw[e,BQ a,AB,g];rcases Aa i s.length with h|h
    .rw[CF h,BT];simp only[AB,BQ h,Af];rw[Dl h];show br (isP p s[i]) _ _=_;cases j:isP p s[i] with
     |true=>
      rw[BT,B1 h (by omega),CE ⟨by omega,by omega⟩,CE ⟨by omega,by omega⟩,CE (by rw[Ai];simp;omega),CE (by rw[AJ,Ai];simp;omega)];simp only[MZ,j,Bool.true_or,if_true,H3 j,Bb,Af]
     |false=>
      rw[Bd,B1 h (by omega),Q () trivial h];simp only[MZ,j,Bool.false_or,Hz (show ¬isP p s[i]=true by rw[j];simp),List.take_succ_eq_append_getElem h,BP,Ii]
    .have:i=s.length:=by omega
     subst this;rw[C0,Bd,AV,Ck];rfl
 .rw[AT c,AT (by simp[c])];rfl
def GM(h:AE)(id:Int):Int:=atF (λx:AU=>x.Id==id) h.AG 0
theorem HW(a:Br h)(id:Int):Mh h id=some (GM h id):=by
 unfold Mh;rw[V6 a.CP,AB];rfl
def zS:Ag:=⟨⟨0,0,0,0,0⟩,[],⟨[]⟩⟩
def xw:AU:=⟨0,0,0,0,0,0,0,0,0,0⟩
theorem F3{k:Int}(a:0<=k)(c:k<h.AH.length):at? h.AH k=some (h.AH.getD k.toNat zS):=by
 grind[BQ]
theorem Y1{k:Int}(a:0<=k)(c:k<h.AG.length):at? h.AG k=some (h.AG.getD k.toNat xw):=by
 grind[BQ]
theorem R3(a:0<=GM h id):GM h id<h.AG.length/\(h.AG.getD (GM h id).toNat xw).Id=id:=by
 grind[GM,Ji]
def Ka(h:AE)(k:Int):Int:=w64 ((h.AH.getD k.toNat zS).AX.GA-(h.AH.getD k.toNat zS).AX.GZ)
theorem VO{k:Int}(a:0<=k)(c:k<h.AH.length):ABZ h k=some (Ka h k):=by
 unfold ABZ;rw[F3 a c,AB,AB];rfl
def YB(h:AE)(q:Bp):Int:=
 if (h.AH.length:Int)<=q.AZ\/(h.AH.length:Int)<=q.Bz\/q.Bz=q.AZ then 4
 else if inB q.BK 1 h.AQ.BK=false then 5
 else if h.AQ.CZ<=q.DS then 6
 else if inB q.Id 1 999=false then 7
 else if 0<=GM h q.Id then 8
 else if h.AQ.Room<=DW h.AG q.AZ then 9
 else if 0<=q.Bz/\Ka h q.Bz<q.BK then 10
 else if 1000000<h.A4 then 11 else 0
theorem yb(a:Br h)(q:Bp):AIS h q=some (YB h q):=by
 have j:=a.CP;have g:∀b,((h.AH.length:Int)<=q.Bz->b=true)->TE h q b=some (if b=true then 4
  else if inB q.BK 1 h.AQ.BK=false then 5
  else if h.AQ.CZ<=q.DS then 6
  else if inB q.Id 1 999=false then 7
  else if 0<=GM h q.Id then 8
  else if h.AQ.Room<=DW h.AG q.AZ then 9
  else if 0<=q.Bz/\Ka h q.Bz<q.BK then 10
  else if 1000000<h.A4 then 11 else 0):=by
  intro b c;unfold TE iZ;cases b with
  |true=>rfl|false=>
   have hF:q.Bz<h.AH.length:=by
    by_cases e:(h.AH.length:Int)<=q.Bz
    .cases c e
    .omega
   simp only[Bd,GX,AB,BM,Bw,Bool.false_eq_true,if_false,ge_iff_le,gt_iff_lt,decide_eq_true_eq,HW a,R9 (show h.AG.length<2 ^ 58 by omega),AV];cases inB q.BK 1 h.AQ.BK
   .rfl
   .grind[VO,AB]
 grind[AIS,YB,BW,AV]
def AOo(p:AU)(now:Int):Bool:=p.State==2&&decide (p.DM<=now)
theorem AUb(p:AU)(now:Int):AIT p now=some (AOo p now):=by
 unfold AIT ib AOo;rw[AV,AV,Cn]
def Kv(h:AE)(id:Int):Int:=
 if GM h id<0 then 7
 else if (h.AG.getD (GM h id).toNat xw).State≠2 then 13
 else if AOo (h.AG.getD (GM h id).toNat xw) h.Now=true then 14 else 0
theorem T6(a:Br h)(id:Int):AIU h id=some (Kv h id):=by
 unfold AIU Kv
 grind[HW,AB,Y1,R3,AUb,Bw]
def IE(h:AE)(q:Bp):Int:=
 if inB q.Kind 1 7=false then 2
 else if KF q=false then 3
 else if q.Kind=1 then YB h q
 else if q.Kind=2 then if GM h q.Id<0 then 7 else 0
 else if q.Kind=3 then if (h.AH.length:Int)<=q.AZ then 4 else if inB q.BK 1 60=false then 5 else if Ka h q.AZ<q.BK then 12 else 0
 else if q.Kind=4\/q.Kind=5 then Kv h q.Id
 else if q.Kind=6 then if 1000000<=h.Now then 15 else 0
 else if q.Kind=7 then if h.AQ.C4<=q.Id then 16 else if h.BB.getD q.Id.toNat 0<0/\h.BD.length=0 then 17 else 0
 else 0
def verdict(h:AE)(q:Bp):Int:=if C9 h=true then IE h q else 1
theorem HX(y:Br h)(q:Bp):TF h q=some (verdict h q):=by
 unfold TF verdict;rw[Gm y,AB,BM,Bw];by_cases j:C9 h=true
 .rw[AW j,AW j];unfold IE;rw[GX,AB,BM,Bw];cases inB q.Kind 1 7
  .rfl
  .simp only[if_true,DZ,if_false];rw[nG,AB,BM,Bw];cases e:KF q
   .rfl
   .simp only[if_true,DZ,if_false,Bw,beq_iff_eq,AV];by_cases g:q.Kind=1
    .rw[AW g,AW g,yb y,AB]
    .rw[AT g,AT g];by_cases E:q.Kind=2
     .rw[AW E,AW E,HW y,AB];simp only[decide_eq_true_eq];split<;>rfl
     .rw[AT E,AT E];by_cases B:q.Kind=3
      .rw[AW B,AW B];have X:0<=q.AZ:=by
        unfold KF at e;rw[AT g,AT (by omega),AW B]at e;simp only[AF,RU,B8]at e;exact e.1.1
       simp only[ge_iff_le,decide_eq_true_eq,GX,AB,A8];by_cases a:(h.AH.length:Int)<=q.AZ
       .rw[AW a,AW a]
       .rw[AT a,AT a];cases inB q.BK 1 60
        .rfl
        .simp only[DZ,if_false];rw[VO X (by omega),AB];by_cases S:Ka h q.AZ<q.BK<;>simp[S]<;>rfl
      .rw[AT B,AT B];unfold ic;by_cases c:q.Kind=4\/q.Kind=5
       .rw[AW c];rcases c with c|c
        .simp only[c,if_true,beq_self_eq_true,BT,T6 y,AB]
        .simp only[c,if_true,beq_self_eq_true,BT,T6 y,AB];rfl
       .have I:q.Kind≠4:=λh=>c (.inl h)
        have J:q.Kind≠5:=λh=>c (.inr h)
        rw[AT c,AT I];have L:(q.Kind==5)=false:=by simpa using J
        rw[L,Bd]
        try simp only[Bw,beq_iff_eq,AV,ge_iff_le,decide_eq_true_eq]
        by_cases G:q.Kind=6
        .rw[AW G,AW G];split<;>rfl
        .rw[AT G,AT G];by_cases H:q.Kind=7
         .rw[AW H,AW H];have hR:=Nl j;have hi:0<=q.Id:=by
           unfold KF at e;rw[AT g,AW (by omega)]at e;simp only[AF,RU,B8]at e;exact e.1.1
          by_cases a:h.AQ.C4<=q.Id
          .rw[AW a,AW a]
          .rw[AT a,AT a];have ⟨n,Y⟩:=Ah hi;have hl:n<h.BB.length:=by have:=hR.Od;omega
           rw[Y,BQ hl,AB,Af,BA,AR hl,DE];unfold ie QT;simp only[Bw,AV,beq_iff_eq];by_cases O:h.BB[n]<0<;>by_cases Q:h.BD.length=0<;>simp[O,Q]
         .rw[AT H,AT H];rfl
 .rw[AT j,AT j]
def Q5(l:List Int)(k:Int):List Int:=if l.any (λy=>y==k)=true then l else l++[k]
theorem Jn(hl:l.length<=1048576)(k:Int):W7 l k=some (Q5 l k):=by
 grind[lim,W7,Q5,CE,V7,AB,Bw]
def cbn(h:AE)(k:Int):Ag:=h.AH.getD k.toNat zS
def Cq(h:AE)(k:Int)(c:Ag):AE:=⟨h.AQ,h.Now,h.A4,h.AG,h.AH.set k.toNat c,h.BD,h.BB⟩
theorem VV{k:Int}(a:0<=k)(c:k<h.AH.length):cbn h k∈h.AH:=by
 grind[cbn,List.getElem?_eq_getElem,List.getElem_mem]
theorem cC(e:Br h)(a:0<=p.AZ)(c:p.AZ<h.AH.length) :
 bC h p=some (Cq h p.AZ ⟨(cbn h p.AZ).AX,put ltE (FH h.AQ p h.Now).1 (cbn h p.AZ).Row,(cbn h p.AZ).B5⟩):=by
 have hlim:lim=268435456:=rfl;have j:=e.EA;have g:=(e.EN _ (VV a c)).1;unfold bC;rw[Yi (by omega),AB,F3 a c,AB,AB];show bd (AEh (cbn h p.AZ).Row _) _=_;rw[nI (by omega),AB,AB,AB];rfl
theorem Yk(g:Br h)(a:0<=p.AZ)(c:p.AZ<h.AH.length) :
 iP h p=some (Cq h p.AZ ⟨(l8 (cbn h p.AZ).AX p.BK 1 (-1) 0 0).1,(cbn h p.AZ).Row,(Uy (cbn h p.AZ).B5 ⟨p.DM,p.Id⟩).1⟩):=by
 have e:=(g.EN _ (VV a c)).2;unfold iP;rw[F3 a c,AB,AB,nC,AB];show bd (qA (cbn h p.AZ).B5 _) _=_;rw[VM e,AB,AB,AB,CE ⟨rfl,⟨by omega,by omega⟩,trivial⟩];rfl
def gone(h:AE)(p:AU):AE:=
 let h':AE:=⟨h.AQ,h.Now,h.A4,h.AG.eraseP (λx=>x.Id==p.Id),h.AH,h.BD,h.BB⟩
 if 0<=p.Bz then Cq h' p.Bz ⟨(l8 (cbn h p.Bz).AX p.BK 0 0 0 (-1)).1,(cbn h p.Bz).Row,(cbn h p.Bz).B5⟩ else h'
theorem Nr(e:Br h)(c:p.Bz<h.AH.length):U4 h p=some (gone h p):=by
 unfold U4 iR gone;rw[oI e.CP,AB,BW];by_cases a:0<=p.Bz
 .rw[AW a,AW a,F3 a c,AB,AB,cR,AB,AB,AB,AV];rfl
 .rw[AT a,AT a,AV]
def TS(h:AE)(k n:Int):AE:=
 let h':=Cq h k ⟨(l8 (cbn h k).AX n 1 0 (-1) 0).1,(cbn h k).Row,(cbn h k).B5⟩
 ⟨h'.AQ,h'.Now,h'.A4,h'.AG,h'.AH,Q5 h.BD k,h'.BB⟩
theorem Yl(e:Br h){k:Int}(a:0<=k)(c:k<h.AH.length)(n:Int):qC h k n=some (TS h k n):=by
 unfold qC TS;rw[F3 a c,AB,AB,nD,AB,AB,AB,Jn e.todo,AB];rfl
def LB(a b:AU):Bool:=decide (a.Id<b.Id)
def LO(l:List AU)(p:AU):List AU:=
 if 0<=atF (λx:AU=>x.Id==p.Id) l 0 then l.set (atF (λx:AU=>x.Id==p.Id) l 0).toNat p else put LB p l
theorem P4{l:List AU}(hl:l.length<=1048576)(p:AU):iD l p=some (LO l p):=by
 have hlim:lim=268435456:=rfl;unfold iD LO;rw[V6 hl,AB,CE (by omega),BW,Bb];split
 .grind[atF,AU,Ji,BQ,AB]
 .rename_i c;have a:∀i:Nat,i<=l.length->iE l p i=some (l.take i++p::l.drop i):=by
   grind[iE,Cp,Lk,Ll,Lm,Lo,K5,Lp,Lq,Gn,Yu,Int.toNat_natCast,List.length_take,CE,List.length_cons,List.length_nil,List.length_append,List.length_drop]
  refine Tw (lt:=LB) some (by omega) ?_ ?_
  .intro L i h;unfold iF W6;rw[CF h,BT,BQ h,AB,AV,AV,a i (by omega)];rfl
  .intro L;unfold iF W6;rw[C0,Bd,AV,Bd,AV,a _ (Ab _)];simp
def E0(r:AY)(p:AU)(now:Int):AU×Bool:=
 if Dw r p now=true/\p.State=2/\w64 (p.Dm+1)<r.Cg then (⟨p.Id,p.AZ,p.Bz,p.BK,p.DS,p.Since,p.A4,1,w64 (now+r.Rest),w64 (p.Dm+1)⟩,true) else (xw,false)
theorem AD3(e:r.AX.length<2 ^ 62)(p:AU)(now:Int):ABf r p now=some (E0 r p now):=by
 unfold ABf XL E0;rw[Np e,AB];simp only[AV,BM,Bw,ge_iff_le,decide_eq_true_eq,bne_iff_ne,ne_eq];cases Dw r p now
 .rfl
 .by_cases a:p.State=2
  .by_cases c:r.Cg<=w64 (p.Dm+1)
   .have:¬w64 (p.Dm+1)<r.Cg:=by omega
    simp[a,c,this];rfl
   grind
  .simp[a];rfl
structure WJ(n:Nat)(c:Ag):Prop where
 row:c.Row.length<=n
 VQ:c.B5.Au.length<=1048576
 pins:c.B5.Au.flatten.length<=n
structure Sm(n:Nat)(h:AE):Prop where
 EA:h.AQ.AX.length<=1048576
 CP:h.AG.length<=n
 Dt:h.AH.length<=1048576
 EN:∀c∈h.AH,WJ n c
 todo:h.BD.length<=n
 F8:h.BB.length<=1048576
theorem WJ.mono(h:WJ n c)(a:n<=m):WJ m c:=⟨Aw h.row a,h.VQ,Aw h.pins a⟩
theorem Sm.mono(a:Sm n h)(e:n<=m):Sm m h:=
 ⟨a.EA,Aw a.CP e,a.Dt,λc g=>(a.EN c g).mono e,Aw a.todo e,a.F8⟩
theorem Sm.fit(a:Sm n h)(e:n<=1048576):Br h:=
 ⟨a.EA,Aw a.CP e,a.Dt,λc g=>⟨Aw (a.EN c g).row e,(a.EN c g).VQ,Aw (a.EN c g).pins e⟩,Aw a.todo e,a.F8⟩
theorem Sm.cab(a:Sm n h){k:Int}(j:WJ n c):Sm n (Cq h k c):=by
 refine⟨a.EA,a.CP,by simpa[Cq] using a.Dt,?_,a.todo,a.F8⟩;intro q e;rcases Dc e with g|rfl
 .exact a.EN _ g
 .exact j
theorem AVT(n:Nat):WJ n zS:=⟨by simp[zS],by simp[zS],by simp[zS]⟩
theorem Sm.cbn{n:Nat}{h:AE}(e:Sm n h)(k:Int):WJ n (cbn h k):=by
 unfold Lv.P.cbn;rw[BA];cases a:h.AH[k.toNat]? with
 |none=>exact AVT n|some c=>exact e.EN c (List.mem_of_getElem? a)
theorem V2{α:Type}(lt:α->α->Bool)(a:α):∀l:List α,(put lt a l).length=l.length+1| []=>rfl|b::l=>by unfold put;split<;>simp[V2 lt a l]
theorem Vc(p:α->Bool)(l:List α):(l.eraseP p).length<=l.length:=(JJ).length_le
theorem AKh(h:WJ n c)(p:Bc):(Uy c.B5 p).1.Au.length<=1048576/\(Uy c.B5 p).1.Au.flatten.length<=n:=by
 unfold Uy;split
 .refine⟨by simpa using h.VQ,?_⟩;rcases Aa (p.At.tmod 9).toNat c.B5.Au.length with a|a
  .have e:c.B5.Au.getD (p.At.tmod 9).toNat []=c.B5.Au[(p.At.tmod 9).toNat]:=by rw[BA,AR a];rfl
   have g:=ACc a ((c.B5.Au[(p.At.tmod 9).toNat]).eraseP (isP p));have j:=Vc (isP p) (c.B5.Au[(p.At.tmod 9).toNat]);have q:=h.pins;dsimp only;rw[e];omega
  .dsimp only;rw[List.set_eq_of_length_le a];exact h.pins
 .exact⟨h.VQ,h.pins⟩
theorem Q6(l:List Int)(k:Int):(Q5 l k).length<=l.length+1:=by unfold Q5;split<;>simp
theorem AS1(l:List AU)(p:AU):(LO l p).length<=l.length+1:=by
 grind[LO,V2]
theorem AUL(g:Sm n h){k:Int}{l:BN}(a:WJ n c):Sm (n+1) (Cq h k ⟨l,put ltE e c.Row,c.B5⟩):=by
 refine(g.mono (DQ n)).cab ⟨?_,a.VQ,Aw a.pins (DQ n)⟩;rw[V2];have:=a.row;omega
theorem dU(a:Sm n h)(p:AU):Sm n (gone h p):=by
 have e:Sm n ⟨h.AQ,h.Now,h.A4,h.AG.eraseP (λx=>x.Id==p.Id),h.AH,h.BD,h.BB⟩:=
  ⟨a.EA,Aw (Vc _ _) a.CP,a.Dt,a.EN,a.todo,a.F8⟩
 unfold gone;dsimp only;split
 .have c:=a.cbn p.Bz;exact e.cab ⟨c.row,c.VQ,c.pins⟩
 .exact e
theorem ACh(g:Sm n h)(k m:Int):Sm (n+1) (TS h k m):=by
 have e:=g.cbn k;have a:=(g.cab (k:=k) (c:=⟨(l8 (Lv.P.cbn h k).AX m 1 0 (-1) 0).1,(Lv.P.cbn h k).Row,(Lv.P.cbn h k).B5⟩) ⟨e.row,e.VQ,e.pins⟩).mono (DQ n);unfold TS;exact⟨a.EA,a.CP,a.Dt,a.EN,Aw (Q6 _ _) (by have:=g.todo;omega),a.F8⟩
def dropped(h:AE)(p:AU):AE:=Cq h p.AZ ⟨(l8 (cbn h p.AZ).AX p.BK 1 (-1) 0 0).1,(cbn h p.AZ).Row,(Uy (cbn h p.AZ).B5 ⟨p.DM,p.Id⟩).1⟩
theorem OR(c:Sm n h)(p:AU):Sm n (dropped h p):=by
 have a:=c.cbn p.AZ;have e:=AKh a ⟨p.DM,p.Id⟩;exact c.cab ⟨a.row,e.1,e.2⟩
def Oy(h:AE)(l:List AU):AE:=⟨h.AQ,h.Now,h.A4,l,h.AH,h.BD,h.BB⟩
def HI(h:AE)(p:AU):AE:=Cq h p.AZ ⟨(cbn h p.AZ).AX,put ltE (FH h.AQ p h.Now).1 (cbn h p.AZ).Row,(cbn h p.AZ).B5⟩
theorem Ut(c:Sm n h)(p:AU):Sm (n+1) (Oy h (LO h.AG p)):=by
 have a:=c.mono (DQ n);exact⟨a.EA,Aw (AS1 _ _) (by have:=c.CP;omega),a.Dt,a.EN,a.todo,a.F8⟩
def I5(h:AE)(p:AU):AE:=
 if (E0 h.AQ p h.Now).2=true then HI (Oy (dropped h p) (LO h.AG (E0 h.AQ p h.Now).1)) (E0 h.AQ p h.Now).1 else gone (dropped h p) p
theorem bJ(h:(E0 r p now).2=true):(E0 r p now).1.AZ=p.AZ:=by
 grind[E0]
theorem AOu(a:Sm n h)(p:AU):Sm (n+2) (I5 h p):=by
 unfold I5;split
 .exact AUL (Ut (OR a p) _) ((Ut (OR a p) _).cbn _)
 .exact(dU (OR a p) p).mono (by omega)
theorem VP(G:n+2<=1048576)(c:Sm n h)(e:0<=p.AZ)(g:p.AZ<h.AH.length)(y:p.Bz<h.AH.length):qI h p=some (I5 h p):=by
 unfold qI;rw[Yk (c.fit (by omega)) e g,AB];have q:=OR c p;have H:=c.EA;show bd (ABf h.AQ p h.Now) _=_;rw[AD3 (by omega),AB,BM,Bw];unfold I5;have a:(dropped h p).AH.length=h.AH.length:=by simp[dropped,Cq]
 split
 .rename_i B;have j:=bJ B;rw[P4 (by have:=c.CP;show h.AG.length<=_;omega),AB];have E:=Ut q (E0 h.AQ p h.Now).1;show bd (bC (Oy (dropped h p) (LO h.AG (E0 h.AQ p h.Now).1)) _) _=_;rw[cC (h:=Oy (dropped h p) (LO h.AG (E0 h.AQ p h.Now).1)) (E.fit (by omega)) (by rw[j];exact e) (by rw[j];show p.AZ<((dropped h p).AH.length:Int);rw[a];exact g),AB];rfl
 .show bd (U4 (dropped h p) p) _=_;rw[Nr (q.fit (by omega)) (by rw[a];exact y),AB]
def EX(h:AE)(l:List Int):AE:=⟨h.AQ,h.Now,h.A4,h.AG,h.AH,l,h.BB⟩
def IF(h:AE)(id cabin frm size tier:Int):AU:=⟨id,cabin,frm,size,tier,h.Now,h.A4,1,0,0⟩
def Jf(h:AE)(k n:Int):AE:=Cq h k ⟨(l8 (cbn h k).AX n 0 0 0 1).1,(cbn h k).Row,(cbn h k).B5⟩
def M8(h:AE)(id cabin frm size tier:Int):AE:=
 let p:=IF h id cabin frm size tier
 let x:=HI ⟨h.AQ,h.Now,w64 (h.A4+1),LO h.AG p,h.AH,h.BD,h.BB⟩ p
 let y:=if 0<=frm then Jf x frm size else x
 EX y (Q5 y.BD cabin)
def bY(h:AE)(id cabin frm size tier:Int):AE×Int:=
 if verdict h ⟨1,id,cabin,frm,size,tier⟩≠0 then (h,verdict h ⟨1,id,cabin,frm,size,tier⟩) else (M8 h id cabin frm size tier,0)
theorem ALW(e:Br h)(a:0<=p.AZ)(c:p.AZ<h.AH.length):bC h p=some (HI h p):=cC e a c
theorem Yv{size:Int}(a:verdict h ⟨1,id,cabin,frm,size,tier⟩=0):C9 h=true/\0<=cabin/\cabin<h.AH.length/\frm<h.AH.length:=by
 grind[verdict,IE,KF,RU,B8,YB]
theorem ANJ(Q:n+3<=1048576)(G:Sm n h)(id cabin frm size tier:Int):AIW h id cabin frm size tier=some (bY h id cabin frm size tier)/\Sm (n+3) (bY h id cabin frm size tier).1:=by
 have E:=G.fit (by omega);unfold AIW ij bY;rw[H9 E,AB,HX E,AB];simp only[Bw,bne_iff_ne,ne_eq,BW,ge_iff_le,AV];by_cases y:verdict h ⟨1,id,cabin,frm,size,tier⟩=0
 .have ⟨O,I,J,L⟩:=Yv y;rw[AT (not_not_intro y),AT (not_not_intro y),P4 E.CP,AB];have g:Sm (n+1) (⟨h.AQ,h.Now,w64 (h.A4+1),LO h.AG (IF h id cabin frm size tier),h.AH,h.BD,h.BB⟩:AE):=by
   have j:=Ut G (IF h id cabin frm size tier);exact⟨j.EA,j.CP,j.Dt,j.EN,j.todo,j.F8⟩
  have e:Sm (n+2) (HI ⟨h.AQ,h.Now,w64 (h.A4+1),LO h.AG (IF h id cabin frm size tier),h.AH,h.BD,h.BB⟩ (IF h id cabin frm size tier)):=AUL g (g.cbn _);show bd (bC ⟨h.AQ,h.Now,w64 (h.A4+1),LO h.AG (IF h id cabin frm size tier),h.AH,h.BD,h.BB⟩ (IF h id cabin frm size tier)) _=_/\_;rw[ALW (g.fit (by omega)) (show 0<=(IF h id cabin frm size tier).AZ from I) (show (IF h id cabin frm size tier).AZ<_ from J),AB];simp only[decide_eq_true_eq];unfold M8;dsimp only;generalize hX:HI ⟨h.AQ,h.Now,w64 (h.A4+1),LO h.AG (IF h id cabin frm size tier),h.AH,h.BD,h.BB⟩ (IF h id cabin frm size tier)=X at e ⊢;have q:X.AH.length=h.AH.length:=by rw[<-hX];simp[HI,Cq]
  by_cases c:0<=frm
  .rw[AW c,AW c,F3 c (by rw[q];exact L),AB,AB,oJ,AB,AB,AB,Jn (by have:=e.todo;show X.BD.length<=_;omega),AB];have B:=e.cbn frm;have H:Sm (n+2) (Jf X frm size):=e.cab ⟨B.row,B.VQ,B.pins⟩;have a:=H.mono (DQ (n+2));exact⟨rfl,a.EA,a.CP,a.Dt,a.EN,Aw (Q6 _ _) (by have:=H.todo;omega),a.F8⟩
  .rw[AT c,AT c];show bd (W7 X.BD cabin) _=_/\_;rw[Jn (by have:=e.todo;omega),AB];have a:=e.mono (DQ (n+2));exact⟨rfl,a.EA,a.CP,a.Dt,a.EN,Aw (Q6 _ _) (by have:=e.todo;omega),a.F8⟩
 .rw[AW y,AW y];exact⟨rfl,G.mono (by omega)⟩
def par(h:AE)(id:Int):AU:=h.AG.getD (GM h id).toNat xw
theorem mh(e:C9 h=true)(c:0<=GM h id):0<=(par h id).AZ/\(par h id).AZ<h.AH.length /\ -1<=(par h id).Bz/\(par h id).Bz<h.AH.length/\(par h id).Id=id:=by
 have hR:=Nl e;have ⟨y,B⟩:=R3 c;have hi:(GM h id).toNat<h.AG.length:=by omega
 have a:=hR.par _ hi;have j:par h id=h.AG[(GM h id).toNat]:=by unfold par;rw[BA,AR hi];rfl
 rw[<-j]at a;unfold Dw at a;have E:=hR.EA;simp only[AF,B8]at a;have ⟨_,_,_,g,q,_⟩:=a;rw[A7 (by omega) (by omega)]at g q;have:=hR.Dt
 grind
def bK(h:AE)(k n:Int):AE×Int:=
 if verdict h ⟨3,0,k,0,n,0⟩≠0 then (h,verdict h ⟨3,0,k,0,n,0⟩) else (TS h k n,0)
theorem SK{k n:Int}(a:verdict h ⟨3,0,k,0,n,0⟩=0):C9 h=true/\0<=k/\k<h.AH.length:=by
 grind[verdict,IE,KF,RU,B8]
theorem m7(y:m+1<=1048576)(e:Sm m h)(k n:Int):AIP h k n=some (bK h k n)/\Sm (m+1) (bK h k n).1:=by
 have c:=e.fit (by omega);unfold AIP bK;rw[H9 c,AB,HX c,AB];simp only[Bw,bne_iff_ne,ne_eq];by_cases a:verdict h ⟨3,0,k,0,n,0⟩=0
 .have ⟨q,g,j⟩:=SK a
  grind[Yl,AB,ACh]
 .rw[AW a,AW a];exact⟨rfl,e.mono (by omega)⟩
theorem SX(a:verdict h ⟨5,id,0,0,0,0⟩=0):C9 h=true/\0<=GM h id:=by
 grind[verdict,IE,Kv,GM]
def ACQ(h:AE)(id:Int):AE:=EX (I5 h (par h id)) (Q5 (I5 h (par h id)).BD (par h id).AZ)
def Mm(h:AE)(id:Int):AE×Int:=
 if verdict h ⟨5,id,0,0,0,0⟩≠0 then (h,verdict h ⟨5,id,0,0,0,0⟩) else (ACQ h id,0)
theorem yP(I:n+3<=1048576)(g:Sm n h)(id:Int):AIc h id=some (Mm h id)/\Sm (n+3) (Mm h id).1:=by
 have j:=g.fit (by omega);unfold AIc Mm;rw[H9 j,AB,HX j,AB];simp only[Bw,bne_iff_ne,ne_eq];by_cases e:verdict h ⟨5,id,0,0,0,0⟩=0
 .have ⟨E,p0⟩:=SX e;have ⟨q,y,H,B,G⟩:=mh E p0;rw[AT (not_not_intro e),AT (not_not_intro e),HW j];simp only[AB,Y1 p0 (R3 p0).1,Cp,Lk,Ll,Lm,Lo,K5,Lp,Lq,Gn];have a:=AOu g (par h id);show bd (qI h (par h id)) _=_/\_;rw[VP (by omega) g q y B,AB,Jn (by have:=a.todo;omega),AB];have c:=a.mono (DQ (n+2));exact⟨rfl,c.EA,c.CP,c.Dt,c.EN,Aw (Q6 _ _) (by have:=a.todo;omega),c.F8⟩
 .rw[AW e,AW e];exact⟨rfl,g.mono (by omega)⟩
theorem UB(a:verdict h ⟨2,id,0,0,0,0⟩=0):C9 h=true/\0<=GM h id:=by
 grind[verdict,IE]
def T9(h:AE)(k id:Int):AE:=Cq h k ⟨(cbn h k).AX,(cbn h k).Row.eraseP (λx=>x.Id==id),(cbn h k).B5⟩
def cancelled(h:AE)(id:Int):AE:=
 let p:=par h id
 if p.State=2 then gone (EX (dropped h p) (Q5 (dropped h p).BD p.AZ)) p else gone (T9 h p.AZ id) p
def O9(h:AE)(id:Int):AE×Int:=
 if verdict h ⟨2,id,0,0,0,0⟩≠0 then (h,verdict h ⟨2,id,0,0,0,0⟩) else (cancelled h id,0)
theorem AF9(e:Br h)(a:0<=p.AZ)(c:p.AZ<h.AH.length):iP h p=some (dropped h p):=Yk e a c
theorem AD1(O:n+1<=1048576)(c:Sm n h)(id:Int):AIN h id=some (O9 h id)/\Sm (n+1) (O9 h id).1:=by
 have j:=c.fit (by omega);unfold AIN O9;rw[H9 j,AB,HX j,AB];simp only[Bw,bne_iff_ne,ne_eq];by_cases e:verdict h ⟨2,id,0,0,0,0⟩=0
 .have ⟨J,p0⟩:=UB e;have ⟨y,B,Q,G,L⟩:=mh J p0;rw[AT (not_not_intro e),AT (not_not_intro e),HW j];simp only[AB,Y1 p0 (R3 p0).1,Cp,Lk,Ll,Lm,Lo,K5,Lp,Lq,Gn,beq_iff_eq,AV];show (if (par h id).State=2 then bd (iP h (par h id)) _ else bd (at? h.AH (par h id).AZ) _)=_/\_;unfold cancelled;dsimp only;by_cases q:(par h id).State=2
  .rw[AW q,AW q,AF9 j y B,AB];have E:=OR c (par h id);rw[Jn (by have:=E.todo;omega),AB];have a:=E.mono (DQ n);have H:Sm (n+1) (EX (dropped h (par h id)) (Q5 (dropped h (par h id)).BD (par h id).AZ)):=
    ⟨a.EA,a.CP,a.Dt,a.EN,Aw (Q6 _ _) (by have:=E.todo;omega),a.F8⟩
   unfold XE;show bd (U4 (EX (dropped h (par h id)) (Q5 (dropped h (par h id)).BD (par h id).AZ)) (par h id)) _=_/\_;rw[Nr (H.fit O) (by (have:(EX (dropped h (par h id)) (Q5 (dropped h (par h id)).BD (par h id).AZ)).AH.length=h.AH.length:=by simp[EX,dropped,Cq]);rw[this];exact G),AB];exact⟨rfl,dU H _⟩
  .rw[AT q,AT q];simp only[show at? h.AH (par h id).AZ=some (cbn h (par h id).AZ) from F3 y B,show at? h.AH (h.AG.getD (GM h id).toNat xw).AZ=some (cbn h (par h id).AZ) from F3 y B,AB];have g:=c.cbn (par h id).AZ;show bd (iQ (cbn h (par h id).AZ).Row id) _=_/\_;rw[VK (by have:=g.row;omega),AB];have I:Sm n (T9 h (par h id).AZ id):=c.cab ⟨Aw (Vc _ _) g.row,g.VQ,g.pins⟩;unfold XE;show bd (U4 (T9 h (par h id).AZ id) (par h id)) _=_/\_;rw[Nr (I.fit (by omega)) (by (have:(T9 h (par h id).AZ id).AH.length=h.AH.length:=by simp[T9,Cq]);rw[this];exact G),AB];exact⟨rfl,(dU I _).mono (DQ n)⟩
 .rw[AW e,AW e];exact⟨rfl,c.mono (by omega)⟩
theorem UA(a:verdict h ⟨4,id,0,0,0,0⟩=0):C9 h=true/\0<=GM h id:=by
 grind[verdict,IE,Kv,GM]
def P2(h:AE)(p:AU):AE:=Cq h p.AZ ⟨(l8 (cbn h p.AZ).AX p.BK 0 (-1) 1 0).1,(cbn h p.AZ).Row,(Uy (cbn h p.AZ).B5 ⟨p.DM,p.Id⟩).1⟩
theorem AWf(c:Sm n h)(p:AU):Sm n (P2 h p):=by
 have a:=c.cbn p.AZ;have e:=AKh a ⟨p.DM,p.Id⟩;exact c.cab ⟨a.row,e.1,e.2⟩
def accepted(h:AE)(id:Int):AE:=
 let p:=par h id
 if 0<=p.Bz then TS (gone (P2 h p) p) p.Bz p.BK else gone (P2 h p) p
def O4(h:AE)(id:Int):AE×Int:=
 if verdict h ⟨4,id,0,0,0,0⟩≠0 then (h,verdict h ⟨4,id,0,0,0,0⟩) else (accepted h id,0)
theorem ACk(h:AE)(p:AU):(gone h p).AH.length=h.AH.length:=by grind[gone,Cq]
theorem ADz(L:n+1<=1048576)(j:Sm n h)(id:Int):AIb h id=some (O4 h id)/\Sm (n+1) (O4 h id).1:=by
 have e:=j.fit (by omega);unfold AIb O4;rw[H9 e,AB,HX e,AB];simp only[Bw,bne_iff_ne,ne_eq];by_cases c:verdict h ⟨4,id,0,0,0,0⟩=0
 .have ⟨G,p0⟩:=UA c;have ⟨q,y,J,B,I⟩:=mh G p0;rw[AT (not_not_intro c),AT (not_not_intro c),HW e];have H:=(e.EN _ (VV q y)).2;have E:=AWf j (par h id);have hl:(P2 h (par h id)).AH.length=h.AH.length:=by simp[P2,Cq]
  simp only[AB,Y1 p0 (R3 p0).1,show at? h.AH (h.AG.getD (GM h id).toNat xw).AZ=some (cbn h (par h id).AZ) from F3 q y,Cp,Lk,Ll,Lm,Lo,K5,Lp,Lq,Gn,nF,VM H,AV,BW,ge_iff_le,decide_eq_true_eq];rw[CE ⟨rfl,⟨by omega,by omega⟩,trivial⟩];show bd (U4 (P2 h (par h id)) (par h id)) _=_/\_;rw[Nr (E.fit (by omega)) (by rw[hl];exact B),AB];have g:=dU E (par h id);unfold accepted iv;dsimp only;by_cases a:0<=(par h id).Bz
  .rw[AW a];show (if 0<=(par h id).Bz then bd (qC (gone (P2 h (par h id)) (par h id)) (par h id).Bz (par h id).BK) _ else _)=_/\_;rw[AW a,Yl (g.fit (by omega)) a (by rw[ACk,hl];exact B),AB];exact⟨rfl,ACh g _ _⟩
  .rw[AT a];show (if 0<=(par h id).Bz then _ else _)=_/\_;rw[AT a];exact⟨rfl,g.mono (DQ n)⟩
 .rw[AW c,AW c];exact⟨rfl,j.mono (by omega)⟩
def Li(h:AE)(i:Nat):AE:=
 let x:=Cq h i ⟨(cbn h i).AX,D5 h.AQ h.AG i h.Now,(cbn h i).B5⟩
 if 0<DW h.AG i then EX x (Q5 h.BD i) else x
def LK:Nat->Nat->AE->AE|0,_,h=>h|k+1,i,h=>LK k (i+1) (Li h i)
theorem sa(h:AE)(i:Nat):(Li h i).AH.length=h.AH.length:=by grind[Li,Cq,EX]
theorem nV(c:Sm n h)(i:Nat):Sm (n+1) (Li h i):=by
 have e:=c.cbn (i:Int);have g:(D5 h.AQ h.AG (i:Int) h.Now).length<=n:=by
  unfold D5;rw[Jl];exact Aw (CW _ _) c.CP
 have j:Sm n (Cq h i ⟨(cbn h i).AX,D5 h.AQ h.AG i h.Now,(cbn h i).B5⟩):=c.cab ⟨g,e.VQ,e.pins⟩;have a:=j.mono (DQ n);unfold Li;dsimp only;split
 .exact⟨a.EA,a.CP,a.Dt,a.EN,Aw (Q6 _ _) (by have:=c.todo;omega),a.F8⟩
 .exact a
theorem AUo(B:Sm n h)(H:n+h.AH.length<=1048576):BE XM big (0,h)=some (LK h.AH.length 0 h,0):=by
 generalize a:h.AH.length=len at *;refine(DI (F:=XM) (n:=len) (λi (v:AE)=>((i:Int),v)) (λi v=>Sm (n+i) v/\v.AH.length=len) (λi v=>some (LK (len-i) i v,0)) (by omega) ?_ (v:=h) ⟨B,a⟩).trans (by rw[Nat.sub_zero]);intro L i v ⟨y,c⟩ hi G;have j:=y.fit (by omega);unfold XM;dsimp only;rw[c];rcases Aa i len with g|g
 .have I:=j.EA;have E:=j.CP;rw[CF g,BT,SC (by omega) E,AB,F3 (by omega) (by omega),AB,AB,R9 (by omega),AB];have e:LK (len-i) i v=LK (len-(i+1)) (i+1) (Li v i):=by rw[show len-i=(len-(i+1))+1 by omega];rfl
  rw[e];have q:=G (Li v i) ⟨by have:=nV y i;rw[CT]at this;exact this,by rw[sa];exact c⟩ g;rw[<-q];unfold iw Li;simp only[BW,gt_iff_lt,AV,B1 g (show len<2 ^ 63 by omega),Af,Jn j.todo,AB];split<;>rfl
 .have:i=len:=by omega
  subst this;rw[C0,Bd,AV,Nat.sub_self];rfl
def yj(h:AE):AE:=LK h.AH.length 0 ⟨h.AQ,w64 (h.Now+1),h.A4,h.AG,h.AH,h.BD,h.BB⟩
def cF(h:AE):AE×Int:=
 if verdict h ⟨6,0,0,0,0,0⟩≠0 then (h,verdict h ⟨6,0,0,0,0,0⟩) else (yj h,0)
theorem AED:∀(k i:Nat) {n:Nat} {h:AE},Sm n h->Sm (n+k) (LK k i h)|0,_,_,_,a=>a|k+1,i,n,h,a=>by have:=AED k (i+1) (nV a i);rw[CT,Nat.add_comm 1 k]at this;exact this
theorem ANO(a:Sm n h)(j:n+h.AH.length<=1048576):AId h=some (cF h)/\Sm (n+h.AH.length) (cF h).1:=by
 have g:=a.fit (by omega);unfold AId cF;rw[H9 g,AB,HX g,AB];simp only[Bw,bne_iff_ne,ne_eq];have e:Sm n ⟨h.AQ,w64 (h.Now+1),h.A4,h.AG,h.AH,h.BD,h.BB⟩:=⟨a.EA,a.CP,a.Dt,a.EN,a.todo,a.F8⟩;by_cases c:verdict h ⟨6,0,0,0,0,0⟩=0
 .rw[AT (not_not_intro c),AT (not_not_intro c),AUo e j];exact⟨rfl,AED _ _ e⟩
 .rw[AW c,AW c];exact⟨rfl,a.mono (by omega)⟩
def kQ(w:A2)(now:Int):List Int:=(E6 w).filterMap λp=>if p.At<=now then some p.Id else none
theorem yV(a:DY w)(now:Int):ABg w now=some ((E6 w).filter λp=>decide (p.At<=now)):=by
 have hlim:lim=268435456:=rfl;have hl:=Ib a;unfold ABg;rw[Mw a,AB,collect (l:=E6 w) (λp=>if p.At<=now then some p else none) some hl ?_ ?_]
 .congr 1;generalize E6 w=l
  induction l with
  |nil=>rfl|cons p l c=>
   grind
 .grind[i6,iz,BQ,AB,BW,AV,CE]
 grind[i6,ABh,Bd,AV]
theorem AD5(g:Br h){k:Int}(a:0<=k)(c:k<h.AH.length):AIe h k=some (kQ (cbn h k).B5 h.Now):=by
 have hlim:lim=268435456:=rfl;have e:=(g.EN _ (VV a c)).2;have hl:=Ib e;unfold AIe;rw[F3 a c,AB];show bd (ABg (cbn h k).B5 h.Now) _=_;rw[yV e,AB];generalize hD:(E6 (cbn h k).B5).filter (λp=>decide (p.At<=h.Now))=D;have hDl:D.length<=1048576:=by rw[<-hD];exact Aw (List.length_filter_le _ _) hl
 rw[collect (l:=D) (λp=>some p.Id) some hDl ?_ ?_]
 .unfold kQ;rw[<-hD];congr 1;generalize E6 (cbn h k).B5=l
  induction l with
  |nil=>rfl|cons p l j=>
   grind
 .grind[i7,BT,BQ,AB,CE]
 grind[i7,ABi,Bd,AV]
section
variable{α:Type}{lt:α->α->Bool}
theorem YQ(a:α):∀l:List α,(put lt a l).Perm (a::l)
 | []=>.refl _|z::l=>by
  unfold put;split
  .exact((YQ a l).cons z).trans (.swap a z l)
  .exact .refl _
theorem N5:∀l:List α,(Dd lt l).Perm l| []=>.refl _|a::l=>(YQ a _).trans ((N5 l).cons a)
def SN(lt:α->α->Bool)(l:List α):Prop:=l.Pairwise λa b=>lt a b=true\/lt b a=true
theorem SN.perm{a c:List α}(h:SN lt a)(e:a.Perm c):SN lt c:=(e.pairwise_iff (λh=>h.symm)).1 h
theorem Mu(h:Swo lt){l:List α}(q:SN lt l):(Dd lt l).Pairwise λa b=>lt a b=true:=by
 have c:(Dd lt l).Pairwise λa b=>lt b a=false:=Ua h l
 have e:SN lt (Dd lt l):=q.perm (N5 (lt:=lt) l).symm;exact(c.and e).imp λ{a b} ⟨g,j⟩=>j.resolve_right (by rw[g];simp)
theorem sV(h:Swo lt):∀{g j:List α},(g.Pairwise λa b=>lt a b=true)->(j.Pairwise λa b=>lt a b=true)->g.Perm j->g=j
 | [],j,_,_,c=>c.nil_eq|a::g,[],_,_,c=>by cases c.eq_nil
 |a::g,b::j,q,y,c=>by
  rw[Bj]at q y;by_cases e:a=b
  .subst e;rw[sV h q.2 y.2 c.cons_inv]
  .have E:a∈j:=(Ad.1 (c.subset (BJ ..))).resolve_left e;have B:b∈g:=(Ad.1 (c.symm.subset (BJ ..))).resolve_left (Ne.symm e);have:=h.tE _ _ (q.1 b B)
   grind
theorem AWg(h:Swo lt){a c:List α}(e:SN lt a)(g:a.Perm c):Dd lt a=Dd lt c:=
 sV h (Mu h e) (Mu h (e.perm g)) ((N5 a).trans (g.trans (N5 c).symm))
end
structure Uni(ps:List AU):Prop where
 id:ps.Pairwise λp q=>p.Id≠q.Id
 turn:ps.Pairwise λp q=>p.A4≠q.A4
theorem Uni.perm(h:Uni a)(c:a.Perm b):Uni b:=⟨(c.pairwise_iff (λh=>Ne.symm h)).1 h.id,(c.pairwise_iff (λh=>Ne.symm h)).1 h.turn⟩
theorem Uni.tail(h:Uni (p::b)):Uni b:=⟨(Bj.1 h.id).2,(Bj.1 h.turn).2⟩
theorem RQ(a:Dw r p now=true)(c:p.State=1):FH r p now=(⟨I6 r p now,p.A4,p.Id,p.BK⟩,true):=by
 grind[FH]
theorem bI(h:¬(Dw r p now=true/\p.State=1)):FH r p now=(⟨0,0,0,0⟩,false):=by
 unfold FH;rw[AT h]
theorem Jm{c:Int}(h:MH r c now p=some e):e=⟨I6 r p now,p.A4,p.Id,p.BK⟩/\Dw r p now=true/\p.State=1/\p.AZ=c:=by
 grind[MH,RQ,bI]
theorem ALn(a:Dw r p now=true)(e:p.State=1)(c:Int):MH r c now p=if p.AZ=c then some ⟨I6 r p now,p.A4,p.Id,p.BK⟩ else none:=by
 unfold MH;rw[RQ a e];simp
theorem AS5{c:Int}(a:p.State≠1):MH r c now p=none:=by
 grind[MH,bI]
theorem Uh{c:Int}{e:Bc}(h:ND c p=some e):e=⟨p.DM,p.Id⟩/\p.State=2/\p.AZ=c:=by
 grind[ND]
theorem ANo(h:Uni ps)(r:AY)(c now:Int):SN ltE (ps.filterMap (MH r c now)):=by
 unfold SN;rw[EZ];refine h.turn.imp ?_;intro p q j a e b g;obtain⟨rfl,_⟩:=Jm e;obtain⟨rfl,_⟩:=Jm g
 grind[Ub]
theorem ADV(h:Uni ps)(a:ps.Perm qs)(r:AY)(c now:Int):D5 r ps c now=D5 r qs c now:=AWg dX (ANo h r c now) (a.filterMap _)
theorem V1(a:ps.Perm qs)(c:Int):Gr ps c=Gr qs c:=lQ FQ dZ (a.filterMap _)
theorem Tx(r:AY)(p:AU)(ps:List AU)(c now:Int):D5 r (p::ps) c now=match MH r c now p with|some e=>put ltE e (D5 r ps c now)|none=>D5 r ps c now:=by
 unfold D5;rw[JK];cases MH r c now p<;>rfl
theorem Vz(p:AU)(ps:List AU)(c:Int):Gr (p::ps) c=match ND c p with|some e=>put ltP e (Gr ps c)|none=>Gr ps c:=by
 unfold Gr;rw[JK];cases ND c p<;>rfl
theorem OU(f:AU->Int)(g:Int->AU->Int)(a:∀n p,g n p=n+f p):∀(l:List AU) (n:Int),l.foldl g n=n+l.foldl g 0| [],n=>by simp|p::l,n=>by rw[Bs,Bs,OU f g a l,OU f g a l (g 0 p),a,a];omega
def Xp(c:Int)(p:AU):Int:=if ((p.State==2)&&((p.AZ==c)&&inB p.BK 1 6))=true then p.BK else 0
def sd(c:Int)(p:AU):Int:=if ((p.Bz==c)&&inB p.BK 1 6)=true then p.BK else 0
def AVX(c:Int)(p:AU):Int:=if (p.AZ==c)=true then 1 else 0
theorem AJz(c n:Int)(p:AU):U8 c n p=n+Xp c p:=by grind[U8,Xp]
theorem AKc(c n:Int)(p:AU):VR c n p=n+sd c p:=by grind[VR,sd]
theorem zc(c n:Int)(p:AU):M1 c n p=n+AVX c p:=by grind[M1,AVX]
theorem OW(p:AU)(ps:List AU)(c:Int):JV (p::ps) c=Xp c p+JV ps c:=by
 unfold JV;rw[Bs,OU _ _ (AJz c),AJz];omega
theorem WC(p:AU)(ps:List AU)(c:Int):Jz (p::ps) c=sd c p+Jz ps c:=by
 unfold Jz;rw[Bs,OU _ _ (AKc c),AKc];omega
theorem aj(p:AU)(ps:List AU)(c:Int):DW (p::ps) c=AVX c p+DW ps c:=by
 unfold DW;rw[Bs,OU _ _ (zc c),zc];omega
theorem nM{F:List AU->Int}{f:AU->Int}(hF:∀p l,F (p::l)=f p+F l){a b:List AU}(g:a.Perm b):F a=F b:=by
 induction g with
 |nil=>rfl|cons x _ j=>rw[hF,hF,j]|swap x y l=>rw[hF,hF,hF,hF];omega|trans _ _ c e=>exact c.trans e
theorem AF1(e:a.Perm b)(c:Int):JV a c=JV b c:=nM (F:=λl=>JV l c) (λp l=>OW p l c) e
theorem AG5(e:a.Perm b)(c:Int):Jz a c=Jz b c:=nM (F:=λl=>Jz l c) (λp l=>WC p l c) e
theorem Sn(e:a.Perm b)(c:Int):DW a c=DW b c:=nM (F:=λl=>DW l c) (λp l=>aj p l c) e
theorem AG2{F:List AU->Int}{f:AU->Int}(c:F []=0)(hF:∀p l,F (p::l)=f p+F l)(a:∀p,0<=f p):∀l,0<=F l| []=>by omega|p::l=>by have:=a p;have:=AG2 c hF a l;rw[hF];omega
theorem AR7(c:Int)(p:AU):0<=Xp c p:=by
 grind[Xp,B8]
theorem AUp(c:Int)(p:AU):0<=sd c p:=by
 grind[sd,B8]
theorem ACl(l:List AU)(c:Int):0<=JV l c:=AG2 (F:=λl=>JV l c) rfl (λp l=>OW p l c) (AR7 c) l
theorem AEE(l:List AU)(c:Int):0<=Jz l c:=AG2 (F:=λl=>Jz l c) rfl (λp l=>WC p l c) (AUp c) l
def wOf(S:List Bc):A2:=⟨(List.range 9).map λi=>S.filter (GY i)⟩
theorem dj(S:List Bc):(wOf S).Au.length=9:=by simp[wOf]
theorem yw(S:List Bc)(h:i<(wOf S).Au.length):(wOf S).Au[i]=S.filter (GY i):=by simp[wOf]
theorem AU0(S:List Bc)(h:i<9):(wOf S).Au.getD i []=S.filter (GY i):=by
 rw[BA,AR (by rw[dj];exact h),DE,yw]
theorem yx(a:k<9)(h:∀i,i<9->i≠k->T.filter (GY i)=S.filter (GY i)):(⟨(wOf S).Au.set k (T.filter (GY k))⟩:A2)=wOf T:=by
 unfold wOf;congr 1;apply H4
 .simp
 grind
theorem nh:∀{S:List Bc},(∀p∈S,1<=p.At)->(wOf S).Au.flatten.Perm S
 | [],_=>by simp[wOf]|p::S,h=>by
  have ⟨k,c,e⟩:=cG (h p (BJ ..));have E:=nh (S:=S) λq B=>h q (Ae _ B)
  have a:GY k p=true:=Km.2 e;have g:=yx (S:=S) (T:=p::S) c (by
   intro i hi y;have:GY i p=false:=by
    grind[GY]
   simp[GB,this])
  rw[<-g];have hl:k<(wOf S).Au.length:=by rw[dj];exact c
  have j:(p::S).filter (GY k)=p::(wOf S).Au[k]:=by rw[yw];simp[GB,a]
  rw[j];dsimp only;rw[Ff,AW hl,G1,Fx,Bi];refine(Kh).trans (List.Perm.cons p ?_);rw[<-Fx,<-G1,<-Dl hl,CY];exact E
structure P8(S:List Bc):Prop where
 few:S.length<=10
 pins:∀p∈S,Ry p=true
 ids:S.Pairwise λa b=>a.Id≠b.Id
 srt:S.Pairwise λa b=>ltP a b=true
theorem ni(h:P8 S):Pg (wOf S):=by
 have c:=nh λp c=>(Ni (h.pins p c)).1.1
 refine⟨dj S,by rw[c.length_eq];exact h.few,λp e=>h.pins p (c.subset e),(c.pairwise_iff (λh=>Ne.symm h)).2 h.ids,?_,?_⟩
 .grind[wOf,GY]
 .intro i hi k j;have g:(S.filter (GY i)).Pairwise λa b=>ltP a b=true:=h.srt.filter _
  grind[yw,List.pairwise_iff_getElem]
theorem AEK(h:P8 S):E6 (wOf S)=S:=by
 have a:=nh λp a=>(Ni (h.pins p a)).1.1
 unfold E6;rw[AW (EO.2 (ni h)),lQ FQ dZ a,Qg FQ h.srt]
theorem AYn(a:HL w=true):w=wOf (E6 w):=by
 unfold E6;rw[AW a];exact aX (EO.1 a)
structure WI(r:AY)(ps:List AU)(now:Int)(i:Nat)(c:Ag):Prop where
 row:c.Row=D5 r ps i now
 HA:c.B5=wOf (Gr ps i)
 total:c.AX.Total=r.AX.getD i 0
 held:c.AX.FL=JV ps i
 Jf:c.AX.GZ=Jz ps i
 led:El c.AX=true
 room:DW ps i<=r.Room
structure RE(r:AY)(now turn:Int)(ps:List AU):Prop where
 few:ps.length<=40
 par:∀p∈ps,Dw r p now=true/\p.A4<turn
 ids:ps.Pairwise λp q=>p.Id<q.Id
 turns:ps.Pairwise λp q=>Ix p q=false
structure RH(h:AE):Prop where
 rules:Ds h.AQ=true
 now:0<=h.Now/\h.Now<=1000000
 turn:1<=h.A4/\h.A4<=1000001
 Dt:h.AH.length=h.AQ.AX.length
 Ia:RE h.AQ h.Now h.A4 h.AG
 cab:∀i (hi:i<h.AH.length),WI h.AQ h.AG h.Now i h.AH[i]
 todo:Hm h.BD h.AH.length=true
 F8:Jx h.BB h.AH.length=true
 Od:(h.BB.length:Int)=h.AQ.C4
theorem AEe(p q:AU):Ix p q=Ix q p:=by
 grind[Ix]
theorem AN1{q:AU}(h:Ix p q=false):p.A4≠q.A4:=by
 grind[Ix]
theorem RE.uni(h:RE r now turn ps):Uni ps:=⟨h.ids.imp λh=>by omega,h.turns.imp λh=>AN1 h⟩
theorem lZ:Swo LB:=⟨λa b h=>by unfold LB at *;simp only[decide_eq_true_eq,decide_eq_false_iff_not]at *;omega,λa b c h=>by unfold LB at *;simp only[decide_eq_true_eq]at *;omega⟩
theorem bj:LC h=true↔(∀p∈h.AG,Dw h.AQ p h.Now=true/\p.A4<h.A4)/\(h.AG.Pairwise λp q=>p.Id<q.Id)/\h.AG.Pairwise λp q=>Ix p q=false:=by
 have a:∀i (hi:i<h.AG.length),bh h i=true↔Dw h.AQ h.AG[i] h.Now=true/\h.AG[i].A4<h.A4/\(∀j (c:j<h.AG.length),j+1=i->h.AG[j].Id<h.AG[i].Id)/\∀j (c:j<i),Ix h.AG[j] h.AG[i]=false:=by
  grind[bh,CX,Jy]
 grind[LC,Jy,List.mem_iff_getElem,OI,LB,lZ,List.pairwise_iff_getElem]
theorem ASW(h:Dw r p now=true):0<=I6 r p now/\I6 r p now<=4:=by
 have c:=FB h;have j:=CL c.1;have a:=rY r p.DS (w64 (now-p.Since));unfold I6;rw[AW h];refine⟨a,?_⟩;unfold Zy;rw[A7 (n:=now-p.Since) (by omega) (by omega)];have e:0<=(now-p.Since).tdiv r.CI:=Int.tdiv_nonneg (by omega) (by omega);have g:(now-p.Since).tdiv r.CI<=now-p.Since:=by rw[Int.tdiv_eq_ediv_of_nonneg (by omega)];exact Int.ediv_le_self _ (by omega)
 grind[A7]
theorem Oi{c:Int}(h:e∈D5 r ps c now):∃p∈ps,MH r c now p=some e:=by
 grind[D5,Qh]
theorem ri{c:Int}{e:Bc}(h:e∈Gr ps c):∃p∈ps,ND c p=some e:=by
 grind[Gr,Qh]
theorem AGi(h:Uni ps)(c now:Int):(D5 r ps c now).Pairwise λa b=>a.Id≠b.Id:=by
 refine((N5 _).pairwise_iff (λh=>Ne.symm h)).2 ?_;rw[EZ];refine h.id.imp ?_;intro p q e a g b j;obtain⟨rfl,_⟩:=Jm g;obtain⟨rfl,_⟩:=Jm j;exact e
theorem R5(r:AY)(ps:List AU)(c now:Int):((D5 r ps c now).length:Int)<=DW ps c:=by
 unfold D5;rw[Jl];exact dQ _ c (by intro p h;unfold MH;rw[h,Dk];rfl) ps
theorem ALi(ps:List AU)(c:Int):((Gr ps c).length:Int)<=DW ps c:=by
 unfold Gr;rw[Jl];exact dQ _ c (by intro p h;unfold ND;rw[h,Dk];rfl) ps
theorem ADW(B:RE r now turn ps){c:Int}(J:DW ps c<=10):LG (D5 r ps c now)=true:=by
 have L:=B.uni;have hl:=R5 r ps c now;unfold LG;rw[AF,Jy];refine⟨by simp;omega,?_⟩;intro k g;unfold qAt;rw[CX g];have ⟨p,E,q⟩:=Oi (Ao g);have ⟨j,e,H,I⟩:=Jm q;have y:=ASW e;have a:=FB e;have G:=CL a.1;simp only[AF,A8,decide_eq_false_iff_not];refine⟨?_,?_,?_⟩
 .rw[j];unfold AOt;simp only[AF,B8];omega
 .grind[CX,D5,List.pairwise_iff_getElem,Mu,dX,ANo]
 .have:atF (λx:A0=>x.Id==(D5 r ps c now)[k].Id) ((D5 r ps c now).take k) 0<0:=by
   rw[dx]
   grind[List.mem_iff_getElem,List.pairwise_iff_getElem,AGi]
  omega
theorem YN(B:RE r now turn ps){c:Int}(O:DW ps c<=10):P8 (Gr ps c):=by
 have hl:=ALi ps c;have g:(ps.filterMap (ND c)).Pairwise λa b=>a.Id≠b.Id:=by
  rw[EZ];refine B.uni.id.imp ?_;intro p q j a E b G;obtain⟨rfl,_⟩:=Uh E;obtain⟨rfl,_⟩:=Uh G;exact j
 refine⟨by omega,?_,((N5 _).pairwise_iff (λh=>Ne.symm h)).2 g,Mu FQ (g.imp ?_)⟩
 .intro e H;have ⟨p,y,I⟩:=ri H;obtain⟨rfl,J,_⟩:=Uh I;have L:=FB (B.par p y).1
  grind[CL,Ry,B8]
 grind[ltP]
theorem Fm:C9 h=true↔RH h:=by
 constructor
 .intro Y;have ⟨G,H,I,J,L,O,Q,S,X,q⟩:=Jk Y;have ⟨y,B,E⟩:=bj.1 O;refine⟨G,H,I,L,⟨J,y,B,E⟩,?_,Q,S,X⟩;intro i hi;have j:i<h.AQ.AX.length:=by omega
  have c:=Jy.1 q i hi;unfold WU at c;rw[CX hi,CX j]at c;unfold KR Lj at c;simp only[AF,beq_iff_eq,A8,decide_eq_false_iff_not,ID dO,ID dP]at c;have ⟨k1,⟨⟨l1,k3,k4⟩,k5,k6,k7,k8⟩,k9⟩:=c;refine⟨k5,?_,?_,k7,k8,l1,by omega⟩
  .rw[<-k6];exact AYn k4
  .rw[k1];simp[List.getD,j]
 .intro hR;unfold C9;have Z:=CL hR.rules;simp only[AF,B8,A8,decide_eq_false_iff_not,beq_iff_eq];refine⟨hR.rules,hR.now,hR.turn,by have:=hR.Ia.few;omega,by rw[hR.Dt],bj.2 ⟨hR.Ia.par,hR.Ia.ids,hR.Ia.turns⟩,⟨hR.todo,hR.F8,hR.Od⟩,?_⟩;unfold NV;rw[Jy];intro i hi;have j:i<h.AQ.AX.length:=by have:=hR.Dt;omega
  have a:=hR.cab i hi;have g:DW h.AG i<=10:=by have:=a.room;omega
  have e:=YN hR.Ia g;unfold WU KR Lj;rw[CX hi,CX j];simp only[AF,beq_iff_eq,A8,decide_eq_false_iff_not,ID dO,ID dP];refine⟨?_,⟨⟨a.led,?_,?_⟩,a.row,?_,a.held,a.Jf⟩,by have:=a.room;omega⟩
  .rw[a.total];simp[List.getD,j]
  .rw[a.row];exact ADW hR.Ia g
  .rw[a.HA];exact EO.2 (ni e)
  .rw[a.HA];exact AEK e
theorem GG{l:BN}:El l=true↔(1<=l.Total/\l.Total<=60)/\(0<=l.D1/\l.D1<=l.Total)/\(0<=l.FL/\l.FL<=l.Total)/\(0<=l.GA/\l.GA<=l.Total)/\l.D1+l.FL+l.GA=l.Total/\0<=l.GZ/\l.GZ<=l.GA:=by
 grind[El,B8,A7]
theorem rR{l:BN}(hl:El l=true){n a b c d:Int}(J:0<=n/\n<=60)(e:a = -1\/a=0\/a=1)(g:b = -1\/b=0\/b=1)(j:c = -1\/c=0\/c=1)(q:d = -1\/d=0\/d=1)
 (H:El ⟨l.Total,l.D1+a*n,l.FL+b*n,l.GA+c*n,l.GZ+d*n⟩=true):l8 l n a b c d=(⟨l.Total,l.D1+a*n,l.FL+b*n,l.GA+c*n,l.GZ+d*n⟩,true):=by
 have I:=GG.1 hl;have w:∀a x:Int,(a = -1\/a=0\/a=1)->0<=x->x<=60->w64 (x+w64 (a*n))=x+a*n:=by
  grind[A7]
 have y:=w a l.D1 e (by omega) (by omega);have B:=w b l.FL g (by omega) (by omega);have E:=w c l.GA j (by omega) (by omega);have G:=w d l.GZ q (by omega) (by omega);unfold l8
 grind[B8]
section
variable{α:Type}{lt:α->α->Bool}
theorem QY{p:α->Bool}{a:α}(c:p a=true):∀{l:List α},(∀x∈l,p x=false)->(put lt a l).eraseP p=l
 | [],_=>by simp[put,c]|z::l,h=>by
  unfold put;split
  .rw[Hz (by rw[h z (BJ ..)];simp),QY c λx e=>h x (Ae _ e)]
  .rw[H3 c]
theorem AKN(a:α):∀l:List α,l.Sublist (put lt a l)
 | []=>List.nil_sublist _|z::l=>by
  unfold put;split
  .exact(AKN a l).cons_cons z
  .exact List.sublist_cons_self ..
theorem AEl{p:α->Bool}{l:List α}{k:Nat}(a:k<l.length)(e:l.eraseP p=l.take k++l.drop (k+1)):l.Perm (l[k]::l.eraseP p):=by
 grind[Dl,List.take_append_drop,List.perm_middle]
theorem set_perm{p:α->Bool}{l:List α}{k:Nat}(c:k<l.length)(e:l.eraseP p=l.take k++l.drop (k+1))(a:α):(l.set k a).Perm (a::l.eraseP p):=by
 rw[e,Ff,AW c];exact Kh
end
theorem P8.sub(h:P8 T)(a:S.Sublist T):P8 S:=⟨Aw a.length_le h.few,λp c=>h.pins p (a.subset c),h.ids.sublist a,h.srt.sublist a⟩
theorem AV2{p x:Bc}:isP p x=true↔x=p:=by
 unfold isP;have ⟨a,b⟩:=p;have ⟨c,d⟩:=x;simp
theorem mO{S:List Bc}{p:Bc}(h:P8 (put ltP p S)):Ry p=true/\P8 S/\∀x∈S,isP p x=false:=by
 have c:=h.sub (AKN p S);refine⟨h.pins p (Uk.2 (.inl rfl)),c,λx e=>?_⟩;cases a:isP p x with
 |false=>rfl|true=>
  rw[AV2]at a;subst a;have:=((YQ (lt:=ltP) x S).pairwise_iff (λh=>Ne.symm h)).1 h.ids
  grind[List.pairwise_cons]
theorem AKg{p:Bc}(h:P8 (put ltP p S))(c:k<9)(e:p.At.tmod 9=(k:Int)):(put ltP p S).filter (GY k)=put ltP p (S.filter (GY k))/\∀i,i<9->i≠k->(put ltP p S).filter (GY i)=S.filter (GY i):=by
 have g:Srt ltP S:=(mO h).2.1.srt.imp λ{a b} h=>FQ.tE _ _ h
 grind[Ve,FQ,Km]
theorem AWo{p:Bc}(h:P8 (put ltP p S)):Uy (wOf (put ltP p S)) p=(wOf S,true):=by
 grind[mO,Ni,AKg,isP,Uy,EO,ni,AU0,QY,yx,Uk]
theorem AWp{p:Bc}(h:P8 (put ltP p S)):RA (wOf S) p=(wOf (put ltP p S),true):=by
 have ⟨a,y,B⟩:=mO h;have g:=(Ni a).1.1;have ⟨k,c,e⟩:=cG g;have ⟨j,q⟩:=AKg h c e
 grind[Yx,wOf,Int.toNat_natCast,yx,RA,EO,ni]
section
variable{p:AU}{ps:List AU}(i:Int)
theorem Iu(h:1<=p.BK/\p.BK<=6):Jz (p::ps) i=(if p.Bz=i then p.BK else 0)+Jz ps i:=by
 rw[WC];unfold sd
 grind[inB]
theorem IS:DW (p::ps) i=(if p.AZ=i then 1 else 0)+DW ps i:=by
 rw[aj];unfold AVX;simp
theorem Ny(a:p.State≠2):JV (p::ps) i=JV ps i:=by
 rw[OW];unfold Xp;simp[a]
theorem Zm(a:p.State=2)(h:1<=p.BK/\p.BK<=6):JV (p::ps) i=(if p.AZ=i then p.BK else 0)+JV ps i:=by
 rw[OW];unfold Xp
 grind[inB]
theorem N4(a:p.State≠2):Gr (p::ps) i=Gr ps i:=by
 rw[Vz];unfold ND;simp[a]
theorem Ug(a:p.State=2):Gr (p::ps) i=if p.AZ=i then put ltP ⟨p.DM,p.Id⟩ (Gr ps i) else Gr ps i:=by
 grind[Vz,ND]
theorem V3(r:AY)(now:Int)(a:p.State≠1):D5 r (p::ps) i now=D5 r ps i now:=by
 rw[Tx,AS5 a]
theorem Kc{r:AY}{now:Int}(a:Dw r p now=true)(c:p.State=1):D5 r (p::ps) i now=if p.AZ=i then put ltE ⟨I6 r p now,p.A4,p.Id,p.BK⟩ (D5 r ps i now) else D5 r ps i now:=by
 grind[Tx,ALn]
end
section
variable{r:AY}{now turn:Int}{ps:List AU}
theorem RE.sub{qs:List AU}(h:RE r now turn ps)(a:qs.Sublist ps):RE r now turn qs:=
 ⟨Aw a.length_le h.few,λp c=>h.par p (a.subset c),h.ids.sublist a,h.turns.sublist a⟩
theorem RE.set(h:RE r now turn ps){k:Nat}(E:k<ps.length){p:AU}(G:p.Id=ps[k].Id)(y:p.A4=ps[k].A4)(H:p.Since=ps[k].Since)(B:Dw r p now=true):RE r now turn (ps.set k p):=by
 have hT:=(h.par _ (Ao E)).2;have g:∀i (hi:i<(ps.set k p).length),(ps.set k p)[i].Id=(ps[i]'(by simpa using hi)).Id/\(ps.set k p)[i].A4=(ps[i]'(by simpa using hi)).A4/\(ps.set k p)[i].Since=(ps[i]'(by simpa using hi)).Since:=by
  grind
 refine⟨by simpa using h.few,?_,?_,?_⟩
 .intro q e;rcases Dc e with e|rfl
  .exact h.par q e
  .exact⟨B,by rw[y];exact hT⟩
 .rw[Cf];intro i j hi c a;rw[(g i hi).1,(g j c).1];exact Cf.1 h.ids i j _ _ a
 .rw[Cf];intro i j hi c a;have:=Cf.1 h.turns i j (by simpa using hi) (by simpa using c) a
  grind[Ix]
end
theorem AYV(a:0<=GM h id):∃k,∃c:k<h.AG.length,GM h id=(k:Int)/\par h id=h.AG[k]/\(par h id).Id=id/\h.AG.eraseP (λx=>x.Id==id)=h.AG.take k++h.AG.drop (k+1):=by
 grind[GM,Ji,par]
structure SY(r:AY)(ps qs:List AU)(now:Int)(i:Nat)(c:Ag):Prop where
 row:c.Row=D5 r ps i now
 HA:c.B5=wOf (Gr ps i)
 total:c.AX.Total=r.AX.getD i 0
 held:c.AX.FL=JV ps i
 Jf:c.AX.GZ=Jz qs i
 led:El c.AX=true
 room:DW ps i<=r.Room
theorem SY.full(h:SY r ps ps now i c):WI r ps now i c:=⟨h.row,h.HA,h.total,h.held,h.Jf,h.led,h.room⟩
theorem WI.half(h:WI r ps now i c):SY r ps ps now i c:=⟨h.row,h.HA,h.total,h.held,h.Jf,h.led,h.room⟩
theorem SY.perm{e:List AU}(h:SY r ps qs now i c)(q:Uni ps)(g:ps.Perm a)(j:qs.Perm e):SY r a e now i c:=
 ⟨by rw[h.row,ADV q g],by rw[h.HA,V1 g],h.total,by rw[h.held,AF1 g],by rw[h.Jf,AG5 j],h.led,by rw[<-Sn g];exact h.room⟩
theorem I1{k:Int}(a:0<=k)(e:k<h.AH.length)(g:0<=j):cbn (Cq h k c) j=if j=k then c else cbn h j:=by
 grind[cbn,Cq]
theorem AHZ(hi:i<h.AH.length):cbn h i=h.AH[i]:=by
 unfold cbn;rw[Af,BA,AR hi];rfl
theorem RH.cb(hR:RH h)(hi:i<h.AH.length):WI h.AQ h.AG h.Now i (cbn h i):=by
 rw[AHZ hi];exact hR.cab i hi
theorem RH.mk'(rules:Ds h.AQ=true)(now:0<=h.Now/\h.Now<=1000000)(turn:1<=h.A4/\h.A4<=1000001)(Dt:h.AH.length=h.AQ.AX.length)(Ia:RE h.AQ h.Now h.A4 h.AG)
 (cab:∀i:Nat,i<h.AH.length->WI h.AQ h.AG h.Now i (cbn h i)) (todo:Hm h.BD h.AH.length=true) (F8:Jx h.BB h.AH.length=true) (Od:(h.BB.length:Int)=h.AQ.C4):RH h:=
 ⟨rules,now,turn,Dt,Ia,λi hi=>by rw[<-AHZ hi];exact cab i hi,todo,F8,Od⟩
structure One(h:AE)(id:Int)(p:AU)(rest:List AU):Prop where
 perm:h.AG.Perm (p::rest)
 sub:rest.Sublist h.AG
 okp:Dw h.AQ p h.Now=true
 pid:p.Id=id
 mem:p∈h.AG
 ne:∀q∈rest,q.Id≠id
 set:∀q:AU,q.Id=id->∃l,LO h.AG q=l/\l.Perm (q::rest)/\(q.A4=p.A4->q.Since=p.Since->Dw h.AQ q h.Now=true->RE h.AQ h.Now h.A4 l)
 cut:h.AG.eraseP (λx=>x.Id==id)=rest
theorem RH.one(hR:RH h)(G:0<=GM h id):One h id (par h id) (h.AG.eraseP λx=>x.Id==id):=by
 have ⟨k,c,e,a,g,j⟩:=AYV G;have y:h.AG[k]∈h.AG:=Ao c;have B:h.AG.Perm (par h id::h.AG.eraseP λx=>x.Id==id):=by rw[a];exact AEl c j
 refine⟨B,JJ,by rw[a];exact(hR.Ia.par _ y).1,g,by rw[a];exact y,?_,?_,rfl⟩
 .have:=(hR.Ia.uni.perm B).id
  grind[List.pairwise_cons]
 .intro q E;refine⟨h.AG.set k q,?_,set_perm c j q,?_⟩
  .unfold LO;unfold GM at e;rw[E,e,AW (by omega),Af]
  .intro H I J;refine hR.Ia.set c ?_ ?_ ?_ J
   .rw[<-a,g,E]
   .rw[<-a,H]
   .rw[<-a,I]
theorem One.size(ho:One h id p rest):(1<=p.BK/\p.BK<=6)/\(0<=p.AZ/\p.AZ<h.AQ.AX.length)/\(-1<=p.Bz/\p.Bz<h.AQ.AX.length)/\p.Bz≠p.AZ:=by
 have a:=FB ho.okp;have c:=CL a.1;omega
def ANa(h:AE)(p:AU)(rest:List AU)(g:AE):Prop:=∀i:Nat,i<h.AH.length->SY h.AQ rest (p::rest) h.Now i (cbn g i)
theorem rq(G:1<=p.BK/\p.BK<=6)(q:p.AZ≠i)(h:WI r (p::rest) now i c):SY r rest (p::rest) now i c:=by
 have y:MH r i now p=none:=by
  grind[MH]
 have B:ND i p=none:=by
  grind[ND]
 have E:Xp i p=0:=by unfold Xp;simp[q]
 have a:=h.row;have e:=h.HA;have g:=h.held;have j:=h.room;rw[Tx,y]at a;rw[Vz,B]at e;rw[OW,E,GR]at g;rw[IS,AT q,GR]at j;exact⟨a,e,h.total,g,h.Jf,h.led,j⟩
section
variable{h:AE}(hR:RH h){id:Int}{p:AU}{rest:List AU}(ho:One h id p rest)
include hR ho
theorem One.cab{i:Nat}(hi:i<h.AH.length):WI h.AQ (p::rest) h.Now i (cbn h i):=((hR.cb hi).half.perm hR.Ia.uni ho.perm ho.perm).full
theorem One.uni:Uni (p::rest):=hR.Ia.uni.perm ho.perm
theorem One.room{i:Nat}(hi:i<h.AH.length):DW (p::rest) i<=10:=by
 have:=(ho.cab hR hi).room;have:=CL hR.rules;omega
theorem One.pins{i:Nat}(hi:i<h.AH.length):P8 (Gr (p::rest) i):=by
 rw[<-V1 ho.perm];exact YN hR.Ia (by rw[Sn ho.perm];exact ho.room hR hi)
theorem Rt(q:p.State=2){a c:Int}(O:a=0/\c=1\/a=1/\c=0) :
 ANa h p rest (Cq h p.AZ ⟨(l8 (cbn h p.AZ).AX p.BK a (-1) c 0).1,(cbn h p.AZ).Row,(Uy (cbn h p.AZ).B5 ⟨p.DM,p.Id⟩).1⟩):=by
 intro i hi;have ⟨G,L,z3,z4⟩:=ho.size;have Q:=hR.Dt;rw[I1 L.1 (by omega) (by omega)];by_cases e:(i:Int)=p.AZ
 .rw[AW e,<-e];have g:=ho.cab hR hi;have j:=ho.pins hR hi;have y:=g.row;have B:=g.HA;have I:=g.held;have J:=g.room;have E:=g.led;rw[V3 _ _ _ (by omega)]at y;rw[Ug _ q,AW e.symm]at B j;rw[Zm _ q G,AW e.symm]at I;rw[IS,AW e.symm]at J;have H:=ACl rest i;have kl:=GG.1 E;have hl:El ⟨(cbn h i).AX.Total,(cbn h i).AX.D1+a*p.BK,(cbn h i).AX.FL+(-1)*p.BK,(cbn h i).AX.GA+c*p.BK,(cbn h i).AX.GZ+0*p.BK⟩=true:=by
   grind[GG]
  rw[rR E (by omega) (by omega) (by omega) (by omega) (by omega) hl,B,AWo j];refine⟨y,rfl,g.total,?_,?_,hl,?_⟩
  .dsimp only;omega
  .dsimp only;rw[g.Jf];omega
  .omega
 .rw[AT e];exact rq G (Ne.symm e) (ho.cab hR hi)
theorem AG7(E:p.State=1):ANa h p rest (T9 h p.AZ id):=by
 intro i hi;have ⟨I,J,z3,z4⟩:=ho.size;have L:=hR.Dt;unfold T9;rw[I1 J.1 (by omega) (by omega)];by_cases e:(i:Int)=p.AZ
 .rw[AW e,<-e];have a:=ho.cab hR hi;have c:=a.row;have g:=a.HA;have j:=a.held;have H:=a.room;rw[Kc _ ho.okp E,AW e.symm]at c;rw[N4 _ (by omega)]at g;rw[Ny _ (by omega)]at j;rw[IS,AW e.symm]at H;refine⟨?_,g,a.total,j,a.Jf,a.led,by omega⟩;dsimp only;rw[c];refine QY (by simpa using ho.pid) λx G=>?_
  have ⟨q,B,y⟩:=Oi G;obtain⟨rfl,_⟩:=Jm y;simpa using ho.ne q B
 .rw[AT e];exact rq I (Ne.symm e) (ho.cab hR hi)
theorem dT{g:AE}(L:ANa h p rest g)(c:g.AQ=h.AQ)(B:g.Now=h.Now)(G:g.A4=h.A4)(S:g.AG=h.AG)(j:g.AH.length=h.AH.length)
 (J:Hm g.BD h.AH.length=true) (H:g.BB=h.BB):RH (gone g p):=by
 have ⟨Q,Y,z3,z4⟩:=ho.size;have O:=hR.Dt;have E:g.AG.eraseP (λx=>x.Id==p.Id)=rest:=by rw[S,ho.pid,ho.cut]
 have q:RE h.AQ h.Now h.A4 rest:=hR.Ia.sub ho.sub;unfold gone;dsimp only;rw[E];split
 .rename_i I;refine RH.mk' (by show Ds g.AQ=true;rw[c];exact hR.rules) (by show 0<=g.Now/\_;rw[B];exact hR.now) (by show 1<=g.A4/\_;rw[G];exact hR.turn) (by simp[Cq,j,c,O]) (by show RE g.AQ g.Now g.A4 rest;rw[c,B,G];exact q) ?_
   (by simpa[Cq,j] using J) (by simpa[Cq,j,H] using hR.F8) (by show (g.BB.length:Int)=g.AQ.C4;rw[H,c];exact hR.Od)
  intro i hi;have y:i<h.AH.length:=by simpa[Cq,j] using hi
  rw[I1 I (by show p.Bz<(g.AH.length:Int);omega) (by omega)];show WI g.AQ rest g.Now i _;rw[c,B];have a:=L i y;have k:=a.Jf;rw[Iu _ Q]at k;by_cases e:(i:Int)=p.Bz
  .rw[AW e,<-e];rw[AW e.symm]at k;have kl:=GG.1 a.led;have X:=AEE rest i;have hl:El ⟨(cbn g i).AX.Total,(cbn g i).AX.D1+0*p.BK,(cbn g i).AX.FL+0*p.BK,(cbn g i).AX.GA+0*p.BK,(cbn g i).AX.GZ+(-1)*p.BK⟩=true:=by
    rw[GG];dsimp only;omega
   rw[rR a.led (by omega) (by omega) (by omega) (by omega) (by omega) hl];refine⟨a.row,a.HA,a.total,?_,?_,hl,a.room⟩
   .dsimp only;rw[a.held];omega
   .dsimp only;omega
  .rw[AT e];rw[AT (Ne.symm e),GR]at k;exact⟨a.row,a.HA,a.total,a.held,k,a.led,a.room⟩
 .rename_i I;refine RH.mk' (by show Ds g.AQ=true;rw[c];exact hR.rules) (by show 0<=g.Now/\_;rw[B];exact hR.now) (by show 1<=g.A4/\_;rw[G];exact hR.turn) (by show g.AH.length=g.AQ.AX.length;rw[j,c,O]) (by show RE g.AQ g.Now g.A4 rest;rw[c,B,G];exact q) ?_
   (by show Hm g.BD g.AH.length=true;rw[j];exact J) (by show Jx g.BB g.AH.length=true;rw[j,H];exact hR.F8) (by show (g.BB.length:Int)=g.AQ.C4;rw[H,c];exact hR.Od)
  intro i hi;have y:i<h.AH.length:=by rw[<-j];exact hi
  show WI g.AQ rest g.Now i (cbn g i);rw[c,B];have a:=L i y;have k:=a.Jf;rw[Iu _ Q,AT (by omega),GR]at k;exact⟨a.row,a.HA,a.total,a.held,k,a.led,a.room⟩
theorem Xi(hs:p.State=2):RH (I5 h p):=by
 have ⟨Q,z2,z3,z4⟩:=ho.size;have Z:=hR.Dt;have L:ANa h p rest (dropped h p):=Rt hR ho hs (.inr ⟨rfl,rfl⟩);have c:(dropped h p).AH.length=h.AH.length:=by simp[dropped,Cq]
 unfold I5;split
 .rename_i Y;have j:=Y;unfold E0 at j;by_cases E:Dw h.AQ p h.Now=true/\p.State=2/\w64 (p.Dm+1)<h.AQ.Cg
  .have hk:=FB ho.okp;have hr:=CL hR.rules;have hq:(E0 h.AQ p h.Now).1=⟨p.Id,p.AZ,p.Bz,p.BK,p.DS,p.Since,p.A4,1,w64 (h.Now+h.AQ.Rest),w64 (p.Dm+1)⟩:=by unfold E0;rw[AW E]
   rw[hq];have ew:w64 (h.Now+h.AQ.Rest)=h.Now+h.AQ.Rest:=A7 (by omega) (by omega);have ea:w64 (p.Dm+1)=p.Dm+1:=A7 (by omega) (by omega);rw[ew,ea];have G:=E.2.2;rw[ea]at G;have g:Dw h.AQ ⟨p.Id,p.AZ,p.Bz,p.BK,p.DS,p.Since,p.A4,1,h.Now+h.AQ.Rest,p.Dm+1⟩ h.Now=true:=by
    grind[Dw,B8,A7]
   have ⟨l,S,B,X⟩:=ho.set ⟨p.Id,p.AZ,p.Bz,p.BK,p.DS,p.Since,p.A4,1,h.Now+h.AQ.Rest,p.Dm+1⟩ ho.pid;rw[S];have J:=X rfl rfl g;generalize hQ:(⟨p.Id,p.AZ,p.Bz,p.BK,p.DS,p.Since,p.A4,1,h.Now+h.AQ.Rest,p.Dm+1⟩:AU)=q at *;have q1:q.AZ=p.AZ:=by rw[<-hQ]
   have q2:q.Bz=p.Bz:=by rw[<-hQ]
   have O:q.BK=p.BK:=by rw[<-hQ]
   have H:q.State=1:=by rw[<-hQ]
   unfold HI;refine RH.mk' hR.rules hR.now hR.turn (by show ((dropped h p).AH.set _ _).length=_;rw[BO,c];exact Z) J ?_ (by show Hm h.BD (((dropped h p).AH.set _ _).length:Nat)=true;rw[BO,c];exact hR.todo) (by show Jx h.BB (((dropped h p).AH.set _ _).length:Nat)=true;rw[BO,c];exact hR.F8) hR.Od;intro i hi;have y:i<h.AH.length:=by have:i<((dropped h p).AH.set q.AZ.toNat _).length:=hi;rw[BO,c]at this;exact this
   rw[I1 (by rw[q1];exact z2.1) (by rw[q1];show p.AZ<((dropped h p).AH.length:Int);omega) (by omega)];show WI h.AQ l h.Now i (if _ then (⟨(cbn (dropped h p) q.AZ).AX,put ltE (FH h.AQ q h.Now).1 (cbn (dropped h p) q.AZ).Row,(cbn (dropped h p) q.AZ).B5⟩:Ag) else cbn (dropped h p) i);have a:=L i y;have hu:=J.uni;have t1:Jz (p::rest) i=Jz (q::rest) i:=by rw[Iu _ Q,Iu _ (by rw[O];exact Q),q2,O]
   have I:DW (q::rest) i<=h.AQ.Room:=by
    have:=(ho.cab hR y).room;rw[IS]at this ⊢;rw[q1];exact this
   refine SY.full (SY.perm ?_ (hu.perm B) B.symm B.symm);by_cases e:(i:Int)=q.AZ
   .rw[AW e,<-e];refine⟨?_,?_,a.total,?_,by dsimp only;rw[a.Jf,t1],a.led,I⟩
    .dsimp only;rw[Kc _ g H,AW e.symm,RQ g H,a.row]
    .dsimp only;rw[N4 _ (by omega),a.HA]
    .dsimp only;rw[Ny _ (by omega),a.held]
   .rw[AT e];refine⟨?_,?_,a.total,?_,by rw[a.Jf,t1],a.led,I⟩
    .rw[Kc _ g H,AT (Ne.symm e),a.row]
    .rw[N4 _ (by omega),a.HA]
    .rw[Ny _ (by omega),a.held]
  .rw[AT E]at j;cases j
 .exact dT hR ho L rfl rfl rfl rfl c hR.todo rfl
end
def bn(p:AU)(now:Int):Bool:=p.State==1&&decide (p.DM>now)
def my(h:AE):List Int:=h.AG.filterMap λp=>if bn p h.Now=true then some p.Id else none
def ACa(free:Int)(skip:List Int)(e:A0):Bool:=decide (e.BK<=free)&&!(skip.any λy=>y==e.Id)
def VF(h:AE)(k:Int):Int:=atF (ACa (cbn h k).AX.D1 (my h)) (cbn h k).Row 0
def AVn:A0:=⟨0,0,0,0⟩
def FA(h:AE)(k:Int):Int:=if VF h k<0 then 0 else ((cbn h k).Row.getD (VF h k).toNat AVn).Id
theorem yX(p:AU)(now:Int):AIg p now=some (bn p now):=by
 unfold AIg jB bn;rw[AV,AV,Cn]
theorem oH{l:List A0}(hl:l.length<=1048576){skip:List Int}(c:skip.length<=1048576)(free:Int):AIh l free skip=some (atF (ACa free skip) l 0):=by
 unfold AIh;refine RG (by omega) ?_ ?_
 .intro L i h;unfold jD jC ACa;rw[CF h,BT];simp only[BQ h,AB,V7 (show skip.length<2 ^ 62 by omega),AV];by_cases a:l[i].BK<=free
  .simp only[a,decide_true,BT,Bool.true_and]
  .simp only[a,decide_false,Bd,Bool.false_and]
 grind[jD,ABk,Bd,AV]
theorem tH{l:List A0}{p:A0->Bool}(a:¬atF p l 0<0):at? l (atF p l 0)=some (l.getD (atF p l 0).toNat AVn)/\∃c:(atF p l 0).toNat<l.length,p l[(atF p l 0).toNat]=true/\l.getD (atF p l 0).toNat AVn=l[(atF p l 0).toNat]:=by
 grind[Ji,BQ]
theorem yc(a:Br h){k:Int}(e:0<=k)(g:k<h.AH.length):ABl h k=some (FA h k):=by
 have hlim:lim=268435456:=rfl;have c:=a.CP;have q:(my h).length<=1048576:=Aw (CW _ _) c;have j:=(a.EN _ (VV e g)).1;unfold ABl;rw[collect (l:=h.AG) (λp=>if bn p h.Now=true then some p.Id else none) (jG h k) c ?_ ?_]
 .grind[jG,cbn,F3,AB,my,oH,VF,FA,BW,tH]
 .grind[jH,jE,BQ,AB,yX,Bw,AV,CE]
 grind[jH,Bd,AV]
def AYP(h:AE)(p:AU):AU:=⟨p.Id,p.AZ,p.Bz,p.BK,p.DS,p.Since,p.A4,2,w64 (h.Now+h.AQ.B6),p.Dm⟩
def I9(h:AE)(k id:Int):AE:=
 Cq (Oy h (LO h.AG (AYP h (par h id)))) k ⟨(l8 (cbn h k).AX (par h id).BK (-1) 1 0 0).1,(cbn h k).Row.eraseP (λx=>x.Id==id),(RA (cbn h k).B5 ⟨w64 (h.Now+h.AQ.B6),id⟩).1⟩
theorem mA(hR:RH h)(L:k<h.AH.length)(c:FA h k≠0):0<=GM h (FA h k)/\(par h (FA h k)).State=1/\(par h (FA h k)).AZ=k/\(par h (FA h k)).BK<=(cbn h k).AX.D1/\bn (par h (FA h k)) h.Now=false:=by
 unfold FA at c ⊢;by_cases g:VF h k<0
 .rw[AW g]at c;exact absurd rfl c
 .rw[AT g]at c ⊢;have ⟨_,hl,G,H⟩:=tH g;have I:=hR.cb L;have j:(cbn h k).Row.getD (VF h k).toNat AVn=(cbn h k).Row[(VF h k).toNat]'hl:=H;rw[j];have O:(cbn h k).Row[(VF h k).toNat]'hl∈D5 h.AQ h.AG k h.Now:=by rw[<-I.row];exact Ao _
  have ⟨p,Q,J⟩:=Oi O;have ⟨E,S,X,Y⟩:=Jm J;have a:ACa (cbn h k).AX.D1 (my h) ((cbn h k).Row[(VF h k).toNat]'hl)=true:=G;unfold ACa at a;rw[AF,decide_eq_true_iff]at a;generalize (cbn h k).Row[(VF h k).toNat]'hl=e at *;subst E;dsimp only at a ⊢;have y:0<=GM h p.Id:=by
   grind[GM,Ji]
  have ho:=hR.one y;have B:par h p.Id=p:=by
   rcases Ad.1 (ho.perm.subset Q) with q|q
   .exact q.symm
   .exact absurd rfl (ho.ne p q)
  rw[B]
  grind[my]
theorem AGR(hR:RH h)(hk:k<h.AH.length)(ho:One h id (par h id) rest)(hs:(par h id).State=1)(g:(par h id).AZ=k)(hf:(par h id).BK<=(cbn h k).AX.D1):RH (I9 h k id):=by
 have ⟨H,z2,z3,z4⟩:=ho.size;have hn:=hR.Dt;have hr:=CL hR.rules;have X:=hR.now;have ew:w64 (h.Now+h.AQ.B6)=h.Now+h.AQ.B6:=A7 (by omega) (by omega);unfold I9;generalize hP:par h id=p at *;have hq:AYP h p=⟨p.Id,p.AZ,p.Bz,p.BK,p.DS,p.Since,p.A4,2,h.Now+h.AQ.B6,p.Dm⟩:=by unfold AYP;rw[ew]
 rw[hq,ew];have O:Dw h.AQ ⟨p.Id,p.AZ,p.Bz,p.BK,p.DS,p.Since,p.A4,2,h.Now+h.AQ.B6,p.Dm⟩ h.Now=true:=by
  have:=ho.okp
  grind[Dw,B8]
 have ⟨l,Z,c,e3⟩:=ho.set ⟨p.Id,p.AZ,p.Bz,p.BK,p.DS,p.Since,p.A4,2,h.Now+h.AQ.B6,p.Dm⟩ ho.pid;rw[Z];have J:=e3 rfl rfl O;have q5:(⟨h.Now+h.AQ.B6,id⟩:Bc)=⟨(⟨p.Id,p.AZ,p.Bz,p.BK,p.DS,p.Since,p.A4,2,h.Now+h.AQ.B6,p.Dm⟩:AU).DM,(⟨p.Id,p.AZ,p.Bz,p.BK,p.DS,p.Since,p.A4,2,h.Now+h.AQ.B6,p.Dm⟩:AU).Id⟩:=by rw[<-ho.pid]
 rw[q5];generalize hQ:(⟨p.Id,p.AZ,p.Bz,p.BK,p.DS,p.Since,p.A4,2,h.Now+h.AQ.B6,p.Dm⟩:AU)=q at *;have q1:q.AZ=p.AZ:=by rw[<-hQ]
 have q2:q.Bz=p.Bz:=by rw[<-hQ]
 have B:q.BK=p.BK:=by rw[<-hQ]
 have E:q.State=2:=by rw[<-hQ]
 have hu:=J.uni;refine RH.mk' hR.rules hR.now hR.turn (by show (h.AH.set _ _).length=_;rw[BO];exact hn) J ?_ (by show Hm h.BD ((h.AH.set _ _).length:Nat)=true;rw[BO];exact hR.todo) (by show Jx h.BB ((h.AH.set _ _).length:Nat)=true;rw[BO];exact hR.F8) hR.Od;intro i hi;have L:i<h.AH.length:=by have:i<(h.AH.set (k:Int).toNat _).length:=hi;rw[BO]at this;exact this
 rw[I1 (by omega) (by show (k:Int)<(h.AH.length:Int);omega) (by omega)];show WI h.AQ l h.Now i (if (i:Int)=k then (⟨_,_,_⟩:Ag) else cbn h i);have a:=ho.cab hR L;have t1:Jz (p::rest) i=Jz (q::rest) i:=by rw[Iu _ H,Iu _ (by rw[B];exact H),q2,B]
 have S:DW (q::rest) i<=h.AQ.Room:=by
  have:=a.room;rw[IS]at this ⊢;rw[q1];exact this
 refine SY.full (SY.perm ?_ (hu.perm c) c.symm c.symm);have G:=a.row;have Q:=a.HA;have Y:=a.held;rw[Kc _ ho.okp hs]at G;rw[N4 _ (by omega)]at Q;rw[Ny _ (by omega)]at Y;by_cases e:(i:Int)=k
 .obtain rfl:i=k:=by omega
  rw[AW rfl];have j:P8 (Gr (q::rest) (i:Int)):=by
   rw[<-V1 c];exact YN J (by rw[Sn c];omega)
  rw[Ug _ E,AW (by rw[q1,g])]at j;have kl:=GG.1 a.led;have hnn:=ACl rest i;have hl:El ⟨(cbn h i).AX.Total,(cbn h i).AX.D1+(-1)*p.BK,(cbn h i).AX.FL+1*p.BK,(cbn h i).AX.GA+0*p.BK,(cbn h i).AX.GZ+0*p.BK⟩=true:=by
   rw[GG];dsimp only;omega
  rw[rR a.led (by omega) (by omega) (by omega) (by omega) (by omega) hl,Q,AWp j];refine⟨?_,?_,a.total,?_,?_,hl,S⟩
  .dsimp only;rw[G,AW g,V3 _ _ _ (by omega)];refine QY (by simpa using ho.pid) λx hx=>?_
   have ⟨y,hy,he⟩:=Oi hx;obtain⟨rfl,_⟩:=Jm he;simpa using ho.ne y hy
  .dsimp only;rw[Ug _ E,AW (by rw[q1,g])]
  .dsimp only;rw[Zm _ E (by rw[B];exact H),AW (by rw[q1,g]),B];omega
  .dsimp only;rw[a.Jf,t1];omega
 .rw[AT e];have I:¬q.AZ=i:=by rw[q1,g];omega
  rw[AT (by rw[<-q1];exact I)]at G;refine⟨by rw[G,V3 _ _ _ (by omega)],by rw[Q,Ug _ E,AT I],a.total,by rw[Y,Zm _ E (by rw[B];exact H),AT I];omega,by rw[a.Jf,t1],a.led,S⟩
theorem RH.sm(hR:RH h):Sm 1000 h:=by
 have G:=CL hR.rules;have E:=hR.Dt;have B:=hR.Od;refine⟨by omega,by have:=hR.Ia.few;omega,by omega,?_,by have:=AUu (by omega) hR.todo;omega,by omega⟩;intro c e;obtain⟨i,hi,rfl⟩:=C2.1 e;have a:=hR.cab i hi;have j:=a.room;have y:=R5 h.AQ h.AG i h.Now;have g:=YN hR.Ia (c:=i) (by omega);have q:=ni g;refine⟨by rw[a.row];omega,by rw[a.HA,dj];omega,by rw[a.HA];have:=q.few;omega⟩
theorem RH.fit(hR:RH h):Br h:=hR.sm.fit (by omega)
theorem RH.xH(hR:RH h){q:AU}(e:q∈h.AG):0<=GM h q.Id/\par h q.Id=q:=by
 have a:0<=GM h q.Id:=by
  grind[GM,Ji]
 have ho:=hR.one a;refine⟨a,?_⟩;rcases Ad.1 (ho.perm.subset e) with c|c
 .exact c.symm
 .exact absurd rfl (ho.ne q c)
structure Kept(h g:AE):Prop where
 rules:g.AQ=h.AQ
 now:g.Now=h.Now
 turn:g.A4=h.A4
 Dt:g.AH.length=h.AH.length
 todo:g.BD=h.BD
 F8:g.BB=h.BB
theorem Kept.refl(h:AE):Kept h h:=⟨rfl,rfl,rfl,rfl,rfl,rfl⟩
theorem Kept.trans{a b c:AE}(h:Kept a b)(g:Kept b c):Kept a c:=⟨g.rules.trans h.rules,g.now.trans h.now,g.turn.trans h.turn,g.Dt.trans h.Dt,g.todo.trans h.todo,g.F8.trans h.F8⟩
theorem ZZ(h:AE)(p:AU):Kept h (gone h p):=by
 unfold gone;dsimp only;split
 .exact⟨rfl,rfl,rfl,by simp[Cq],rfl,rfl⟩
 .exact⟨rfl,rfl,rfl,rfl,rfl,rfl⟩
theorem uQ(h:AE)(p:AU):Kept h (dropped h p):=⟨rfl,rfl,rfl,by simp[dropped,Cq],rfl,rfl⟩
theorem RS(h:AE)(p:AU):Kept h (I5 h p):=by
 unfold I5;split
 .exact⟨rfl,rfl,rfl,by simp[HI,Oy,dropped,Cq],rfl,rfl⟩
 .exact(uQ h p).trans (ZZ _ _)
theorem Ru(h:AE)(k id:Int):Kept h (I9 h k id):=⟨rfl,rfl,rfl,by simp[I9,Oy,Cq],rfl,rfl⟩
theorem ALH(ho:One h id p rest){q:AU}(c:q∈rest):q∈(I5 h p).AG:=by
 unfold I5;split
 .rename_i a;have e:(E0 h.AQ p h.Now).1.Id=id:=by
   unfold E0 at a ⊢;split at a
   .rename_i g;rw[AW g];exact ho.pid
   .cases a
  have ⟨l,j,y,_⟩:=ho.set _ e;show q∈LO h.AG (E0 h.AQ p h.Now).1
  grind
 .have:(gone (dropped h p) p).AG=rest:=by
   rw[<-ho.cut,<-ho.pid];unfold gone;dsimp only;split<;>rfl
  rw[this];exact c
def UW:List Int->AE->AE| [],g=>g|id::l,g=>UW l (I5 g (par g id))
def AKn(g:AE)(l:List Int):Prop:=l.Nodup/\∀id∈l,0<=GM g id/\(par g id).State=2
theorem Vd(hR:RH g)(hO:AKn g (id::l)):RH (I5 g (par g id))/\AKn (I5 g (par g id)) l/\Kept g (I5 g (par g id)):=by
 have ⟨c,B⟩:=hO;rw[List.nodup_cons]at c;have ⟨G,H⟩:=B id (BJ ..);have ho:=hR.one G;have hR':=Xi hR ho H;refine⟨hR',⟨c.2,?_⟩,RS _ _⟩;intro j E;have ⟨I,L⟩:=B j (Ae _ E);have y:j≠id:=λe=>c.1 (e▸E)
 have a:=hR.one I;have J:par g j∈g.AG.eraseP (λx=>x.Id==id):=by
  rcases Ad.1 (ho.perm.subset a.mem) with q|q
  .exact absurd (by rw[<-a.pid,<-ho.pid,q]) y
  .exact q
 have:=hR'.xH (ALH ho J);rw[a.pid]at this
 grind
theorem RR:∀{l:List Int} {g:AE},RH g->AKn g l->RH (UW l g)/\Kept g (UW l g)
 | [],g,hR,_=>⟨hR,Kept.refl g⟩|id::l,g,hR,hO=>by
  have ⟨a,c,e⟩:=Vd hR hO;have ⟨j,q⟩:=RR a c;exact⟨j,e.trans q⟩
def Xh(h:AE)(k:Int):AE:=UW (kQ (cbn h k).B5 h.Now) h
theorem TO(hR:RH h)(I:k<h.AH.length):AKn h (kQ (cbn h k).B5 h.Now)/\(kQ (cbn h k).B5 h.Now).length<=10:=by
 have E:=hR.cb I;have X:=CL hR.rules;have q:=YN hR.Ia (c:=k) (by have:=E.room;omega);have e:kQ (cbn h k).B5 h.Now=(Gr h.AG k).filterMap λp=>if p.At<=h.Now then some p.Id else none:=by
  unfold kQ;rw[E.HA,AEK q]
 rw[e];refine⟨⟨?_,?_⟩,Aw (CW _ _) q.few⟩
 .show List.Pairwise _ _;rw[EZ];refine q.ids.imp ?_;intro a b L x g y Q;split at g<;>split at Q<;>simp_all
 .intro id j;have ⟨pin,J,g⟩:=List.mem_filterMap.1 j;split at g
  .have ⟨p,B,O⟩:=ri J;obtain⟨rfl,S,_⟩:=Uh O;cases g;have ⟨G,H⟩:=hR.xH B;exact⟨G,by rw[H];exact S⟩
  .cases g
theorem AYW(hR:RH h)(a:0<=GM h id):0<=(par h id).AZ/\(par h id).AZ<h.AH.length/\(par h id).Bz<h.AH.length:=by
 have:=(hR.one a).size;have:=hR.Dt;omega
theorem RI(a:0<=GM h id):at? h.AG (GM h id)=some (par h id):=Y1 a (R3 a).1
theorem nH(hR:RH h)(q:k<h.AH.length):AIf h k=some (Xh h k):=by
 have ⟨hO,hl⟩:=TO hR q;unfold AIf Xh;rw[AD5 hR.fit (by omega) (by omega),AB];generalize kQ (cbn h k).B5 h.Now=D at *;refine(DI (F:=jA D) (n:=D.length) (λi (v:AE)=>((i:Int),v)) (λi v=>RH v/\AKn v (D.drop i)) (λi v=>some (UW (D.drop i) v)) (by omega) ?_ (v:=h) ⟨hR,hO⟩);rintro L i v ⟨e,ho⟩ hi y;unfold jA ABj;dsimp only;rcases Aa i D.length with a|j
 .rw[Dl a]at ho ⊢;have g:=ho.2 D[i] (BJ ..);have c:=AYW e g.1;have ⟨s1,B,_⟩:=Vd e ho;simp only[CF a,BT,BQ a,AB,HW e.fit,RI g.1,VP (show 1000+2<=1048576 by omega) e.sm c.1 c.2.1 c.2.2,B1 a (show D.length<2 ^ 63 by omega)];exact y _ ⟨s1,B⟩ a
 .obtain rfl:i=D.length:=by omega
  rw[C0,Bd,AV,Ck];rfl
theorem ADG(hR:RH h)(e:k<h.AH.length)(ho:One h id (par h id) rest)(g:(par h id).State=1)(a:(par h id).AZ=k):(cbn (I9 h k id) k).Row.length+1=(cbn h k).Row.length:=by
 unfold I9;rw[I1 (by omega) (by show (k:Int)<(h.AH.length:Int);omega) (by omega),AW rfl];dsimp only;have:=(ho.cab hR e).row;rw[Kc _ ho.okp g,AW a]at this;rw[this,QY (by simpa using ho.pid) λx j=>?_,GH];have ⟨y,q,c⟩:=Oi j;obtain⟨rfl,_⟩:=Jm c;simpa using ho.ne y q
theorem oK(hR:RH h)(g:k<h.AH.length):AIi h k=some (if FA h k=0 then (h,0) else (I9 h k (FA h k),FA h k))/\(FA h k=0->AIj h k=some ((),0)):=by
 have a:=hR.fit;unfold AIi AIj;rw[yc a (by omega) (by omega),AB,AB,Bw,Bw];by_cases c:FA h k=0
 .grind
 .refine⟨?_,λh=>absurd h c⟩;have ⟨j,q,y,B,E⟩:=mA hR g c;have e:=a.EN _ (VV (k:=(k:Int)) (by omega) (by omega));rw[AT (by simpa using c),AT c];simp only[HW a,AB,RI j,Gn,P4 a.CP,show at? h.AH (k:Int)=some (cbn h k) from F3 (by omega) (by omega),nE,VK e.1,VN e.2];rfl
def Oo(k:Int):Nat->AE->List Int->AE×List Int|0,h,a=>(h,a)|n+1,h,a=>if FA h k=0 then (h,a) else Oo k n (I9 h k (FA h k)) (a++[FA h k])
theorem AKY{k:Int}(c:FA h k=0)(a:List Int):∀n,Oo k n h a=(h,a)|0=>rfl|n+1=>by unfold Oo;rw[AW c]
theorem Vv(hR:RH h)(a:k<h.AH.length)(j:FA h k≠0):RH (I9 h k (FA h k))/\(cbn (I9 h k (FA h k)) k).Row.length+1=(cbn h k).Row.length:=by
 have ⟨c,e,g,q,y⟩:=mA hR a j;exact⟨AGR hR a (hR.one c) e g q,ADG hR a (hR.one c) e g⟩
theorem ADq{k:Nat}:∀(n:Nat) {h:AE} (a:List Int),RH h->k<h.AH.length->RH (Oo k n h a).1/\Kept h (Oo k n h a).1/\(Oo k n h a).2.length<=a.length+n
 |0,h,a,hR,_=>⟨hR,Kept.refl h,by unfold Oo;simp⟩|n+1,h,a,hR,e=>by
  unfold Oo;split
  .exact⟨hR,Kept.refl h,by simp⟩
  .rename_i B;have y:=Vv hR e B;have c:=Ru h k (FA h k);obtain⟨g,j,q⟩:=ADq n (a++[FA h k]) y.1 (by rw[c.Dt];exact e);refine⟨g,c.trans j,?_⟩;rw[AJ,List.length_singleton]at q;omega
def KV(h:AE)(k:Int):AE×List Int:=Oo k 10 (Xh h k) []
theorem di(hR:RH h)(c:k<h.AH.length):(cbn h k).Row.length<=10:=by
 have a:=hR.cb c;have j:=CL hR.rules;have e:=R5 h.AQ h.AG k h.Now;have g:=a.room;rw[a.row];omega
theorem ADC{k:Int}(a:FA h k≠0):0<(cbn h k).Row.length:=by
 unfold FA at a;split at a
 .exact absurd rfl a
 .rename_i c;have ⟨_,hl,_⟩:=tH c;omega
theorem AUP(hR:RH h)(y:k<h.AH.length):BE (XN k) big ([],h)=some (Oo k 10 h []):=by
 have hlim:lim=268435456:=rfl;refine Z3 (F:=XN k) (λx=>some (Oo k (10-x.1.length) x.2 x.1)) (λx=>RH x.2/\k<x.2.AH.length/\x.1.length+(cbn x.2 k).Row.length<=10) (λx=>(cbn x.2 k).Row.length) ?_ (x:=([],h)) ⟨hR,y,by have:=di hR y;simpa using this⟩ (by have:=di hR y;show (cbn h k).Row.length<_;omega);rintro L ⟨a,g⟩ ⟨q,c,e⟩ E;dsimp only at q c e E ⊢;unfold XN;dsimp only;have ⟨H,I⟩:=oK q c;rw[H,AB];by_cases j:FA g k=0
 .grind[AB,AKY,BT,AXH]
 .have ⟨s1,J⟩:=Vv q c j;have B:=ADC j;rw[AT j];dsimp only;have G:(FA g k==0)=false:=by simpa using j
  rw[G,Bd,CE (by simp only[AI,AM];omega),E (a++[FA g k],I9 g k (FA g k)) ⟨s1,by rw[(Ru g k _).Dt];exact c,by simp only[AJ,AI,AM];omega⟩ (by dsimp only;omega),AXI];congr 1;rw[show 10-a.length=(10-(a++[FA g k]).length)+1 by simp only[AJ,AI,AM];omega]
  conv=>rhs;unfold Oo
  rw[AT j]
theorem V5(hR:RH h)(c:k<h.AH.length):RH (KV h k).1/\Kept h (KV h k).1/\(KV h k).2.length<=10:=by
 have ⟨g,a⟩:=RR hR (TO hR c).1;have ⟨s1,j,e⟩:=ADq (k:=k) 10 [] g (by rw[a.Dt];exact c);exact⟨s1,a.trans j,by simp only[AM,Nat.zero_add]at e;exact e⟩
theorem ANM(hR:RH h)(c:k<h.AH.length):AIk h k=some (KV h k):=by
 have a:=hR.fit;have j:=a.Dt;have ⟨e,g⟩:=RR hR (TO hR c).1;unfold AIk AOO iy;rw[H9 a,AB,Gm a,Fm.2 hR,AB,BT,GX,AB,AV,AB,A7 (by omega) (by omega),B8.2 (by omega),BM,BT,nH hR c,AB];exact AUP e (Nat.lt_of_lt_of_eq c g.Dt.symm)
theorem Gv(a:verdict h q=0):RH h:=by
 grind[verdict,Fm]
theorem SL(B:q.Kind=7)(a:verdict h q=0):∃n:Nat,∃e:n<h.BB.length,q.Id=(n:Int)/\¬(h.BB[n]<0/\h.BD.length=0):=by
 have hR:=Gv a;unfold verdict at a;rw[AW (Fm.2 hR)]at a;unfold IE at a;split at a
 .cases a
 .split at a
  .cases a
  .rename_i j;have c:KF q=true:=by simpa using j
   have hi:0<=q.Id:=by
    unfold KF at c;rw[AT (by omega),AW (by omega)]at c;simp only[AF,RU,B8]at c;exact c.1.1
   rw[AT (by omega),AT (by omega),AT (by omega),AT (by omega),AT (by omega)]at a
   try rw[AW B]at a
   by_cases g:h.AQ.C4<=q.Id
   .rw[AW g]at a;cases a
   .rw[AT g]at a;have ⟨n,e⟩:=Ah hi;have hl:n<h.BB.length:=by have:=hR.Od;omega
    refine⟨n,hl,e,?_⟩;rw[e,Af,BA,AR hl,DE]at a;intro y;rw[AW y]at a;cases a
def Q8(h:AE)(l:List Int):AE:=⟨h.AQ,h.Now,h.A4,h.AG,h.AH,h.BD,l⟩
def Vy(h:AE)(who:Int):AE×List Int:=
 if h.BB.getD who.toNat 0<0 then (Q8 (EX h (h.BD.drop 1)) (h.BB.set who.toNat (h.BD.getD 0 0)),[])
 else (Q8 (KV h (h.BB.getD who.toNat 0)).1 ((KV h (h.BB.getD who.toNat 0)).1.BB.set who.toNat (-1)),(KV h (h.BB.getD who.toNat 0)).2)
def VH(h:AE)(who:Int):AE×Int×List Int:=
 if verdict h ⟨7,who,0,0,0,0⟩≠0 then (h,verdict h ⟨7,who,0,0,0,0⟩,[]) else ((Vy h who).1,0,(Vy h who).2)
theorem RH.job(hR:RH h)(a:n<h.BB.length)(c:¬h.BB[n]<0):∃k:Nat,k<h.AH.length/\h.BB[n]=(k:Int):=by
 have:=CC.1 hR.F8 _ (Ao a);have e:=hR.fit.Dt
 grind[B8,A7,Int.eq_ofNat_of_zero_le]
theorem ANL(c:Br h)(who:Int):AIl h who=some (VH h who)/\Br (VH h who).1/\(VH h who).2.2.length<=10:=by
 have hlim:lim=268435456:=rfl;unfold AIl VH;rw[H9 c,AB,HX c,AB];simp only[Bw,bne_iff_ne,ne_eq];by_cases q:verdict h ⟨7,who,0,0,0,0⟩=0
 .rw[AT (not_not_intro q),AT (not_not_intro q)];have hR:=Gv q;have ⟨n,j,e,E⟩:=SL rfl q;dsimp only at e;subst e;have eg:h.BB.getD n 0=h.BB[n]:=by rw[BA,AR j];rfl
  unfold Vy;rw[BQ j,AB,Af,eg];simp only[decide_eq_true_eq];by_cases g:h.BB[n]<0
  .rw[AW g,AW g];have I:0<h.BD.length:=by
    rcases Nat.eq_zero_or_pos h.BD.length with y|y
    .exact absurd ⟨g,y⟩ E
    .exact y
   have J:h.BD.getD 0 0=h.BD[0]:=by rw[BA,AR I];rfl
   have G:=c.todo;have L:(List.drop (Int.toNat 1) h.BD).length<=h.BD.length:=by rw[BH];omega
   rw[WR,AR I,AB,AB,AB,CE ⟨by omega,by omega⟩,CE (by omega),J];exact⟨rfl,⟨c.EA,c.CP,c.Dt,c.EN,Aw L G,by show (h.BB.set _ _).length<=_;rw[BO];exact c.F8⟩,by simp⟩
  .rw[AT g,AT g];have ⟨k,H,ek⟩:=hR.job j g;have ⟨s1,O,Q⟩:=V5 hR H;rw[ek,ANM hR H,AB];have B:n<(KV h k).1.BB.length:=by rw[O.F8];exact j
   rw[BQ B,AB,AB];have a:=s1.fit;exact⟨rfl,⟨a.EA,a.CP,a.Dt,a.EN,a.todo,by show ((KV h k).1.BB.set _ _).length<=_;rw[BO];exact a.F8⟩,Q⟩
 grind
def doF(h:AE)(q:Bp):AE×Cw:=
 if verdict h q≠0 then (h,⟨verdict h q,[]⟩)
 else if q.Kind=1 then ((bY h q.Id q.AZ q.Bz q.BK q.DS).1,⟨(bY h q.Id q.AZ q.Bz q.BK q.DS).2,[]⟩)
 else if q.Kind=2 then ((O9 h q.Id).1,⟨(O9 h q.Id).2,[]⟩)
 else if q.Kind=3 then ((bK h q.AZ q.BK).1,⟨(bK h q.AZ q.BK).2,[]⟩)
 else if q.Kind=4 then ((O4 h q.Id).1,⟨(O4 h q.Id).2,[]⟩)
 else if q.Kind=5 then ((Mm h q.Id).1,⟨(Mm h q.Id).2,[]⟩)
 else if q.Kind=6 then ((cF h).1,⟨(cF h).2,[]⟩)
 else ((VH h q.Id).1,⟨(VH h q.Id).2.1,(VH h q.Id).2.2⟩)
theorem yQ(E:Br h)(q:Bp):bD h q=some (doF h q)/\Br (doF h q).1/\(doF h q).2.Ids.length<=10:=by
 unfold bD doF Mj;rw[H9 E,AB,HX E,AB];simp only[Bw,bne_iff_ne,ne_eq,beq_iff_eq,AV];by_cases G:verdict h q=0
 .have hR:=Gv G;have a:=hR.sm;have H:=hR.Dt;have I:=CL hR.rules;rw[AT (not_not_intro G),AT (not_not_intro G)];by_cases c:q.Kind=1
  .rw[AW c,AW c];have:=ANJ (show 1000+3<=1048576 by omega) a q.Id q.AZ q.Bz q.BK q.DS;rw[this.1,AB];exact⟨rfl,this.2.fit (by omega),by simp⟩
  .rw[AT c,AT c];by_cases e:q.Kind=2
   .rw[AW e,AW e];have:=AD1 (show 1000+1<=1048576 by omega) a q.Id;rw[this.1,AB];exact⟨rfl,this.2.fit (by omega),by simp⟩
   .rw[AT e,AT e];by_cases g:q.Kind=3
    .rw[AW g,AW g];have:=m7 (show 1000+1<=1048576 by omega) a q.AZ q.BK;rw[this.1,AB];exact⟨rfl,this.2.fit (by omega),by simp⟩
    .rw[AT g,AT g];by_cases j:q.Kind=4
     .rw[AW j,AW j];have:=ADz (show 1000+1<=1048576 by omega) a q.Id;rw[this.1,AB];exact⟨rfl,this.2.fit (by omega),by simp⟩
     .rw[AT j,AT j];by_cases y:q.Kind=5
      .rw[AW y,AW y];have:=yP (show 1000+3<=1048576 by omega) a q.Id;rw[this.1,AB];exact⟨rfl,this.2.fit (by omega),by simp⟩
      .rw[AT y,AT y];by_cases B:q.Kind=6
       .rw[AW B,AW B];have:=ANO a (show 1000+h.AH.length<=1048576 by omega);rw[this.1,AB];exact⟨rfl,this.2.fit (by omega),by simp⟩
       .rw[AT B,AT B];have:=ANL E q.Id;rw[this.1,AB];exact⟨rfl,this.2.1,this.2.2⟩
 grind
def D7:List Bp->AE->AE×List Cw| [],h=>(h,[])|q::l,h=>((D7 l (doF h q).1).1,(doF h q).2::(D7 l (doF h q).1).2)
theorem IA:∀(l:List Bp) {h:AE},Br h->Br (D7 l h).1/\(D7 l h).2.length=l.length/\∀r∈(D7 l h).2,r.Ids.length<=10
 | [],h,a=>⟨a,rfl,by simp[D7]⟩|q::l,h,a=>by
  have c:=yQ a q;have ⟨e,g,j⟩:=IA l c.2.1
  grind[D7]
theorem QW:∀(l m:List Bp) (h:AE),D7 (l++m) h=((D7 m (D7 l h).1).1,(D7 l h).2++(D7 m (D7 l h).1).2)| [],m,h=>rfl|q::l,m,h=>by simp only[Bi,D7,QW l m]
theorem Ou(q:Br h){l:List Bp}(hl:l.length<=1048576):bE h l=some (D7 l h):=by
 have hlim:lim=268435456:=rfl;unfold bE;rw[H9 q,AB];refine(DI (F:=jI l) (n:=l.length) (λi (v:List Cw×AE)=>(v.1,(i:Int),v.2)) (λi v=>Br v.2/\v.1.length=i) (λi v=>some ((D7 (l.drop i) v.2).1,v.1++(D7 (l.drop i) v.2).2)) (by omega) ?_ (v:=([],h)) ⟨q,rfl⟩).trans ?_
 .rintro L i ⟨a,g⟩ ⟨y,e⟩ hi B;dsimp only at y e B ⊢;unfold jI ABn;dsimp only;rcases Aa i l.length with c|E
  .have j:=yQ y l[i];rw[Dl c];simp only[CF c,BT,BQ c,AB,j.1,Jo,yp,B1 c (show l.length<2 ^ 63 by omega)];rw[CE (by simp only[AI,AM];omega)];have:=B (a++[(doF g l[i]).2],(doF g l[i]).1) ⟨j.2.1,by simp[e]⟩ c;dsimp only at this;rw[this];simp only[D7,BP,Ii]
  .grind[Bd,AV,D7]
 .simp
theorem nX{n:Int}:Hm t n=true↔(∀k∈t,0<=k/\k<=w64 (n-1))/\t.Pairwise λa b=>a≠b:=by
 grind[SH,CX,B8,List.mem_iff_getElem,Hm,Jy,List.pairwise_iff_getElem]
theorem Yt(e:n<=1048576)(h:Hm t n=true){k:Int}(a:0<=k)(c:k<n):Hm (Q5 t k) n=true:=by
 grind[Q5,nX,A7]
theorem RH.len(hR:RH h):h.AH.length<=4/\h.AH.length=h.AQ.AX.length:=by
 have:=CL hR.rules;have:=hR.Dt;omega
theorem RH.EX(hR:RH h)(hl:Hm l h.AH.length=true):RH (EX h l):=⟨hR.rules,hR.now,hR.turn,hR.Dt,hR.Ia,hR.cab,hl,hR.F8,hR.Od⟩
theorem RH.Q8(hR:RH h)(hl:Jx l h.AH.length=true)(a:l.length=h.BB.length):RH (Q8 h l):=⟨hR.rules,hR.now,hR.turn,hR.Dt,hR.Ia,hR.cab,hR.todo,hl,by show (l.length:Int)=_;rw[a];exact hR.Od⟩
theorem RH.put(hR:RH h){k:Int}(a:0<=k)(c:k<h.AH.length):RH (Lv.P.EX h (Q5 h.BD k)):=hR.EX (Yt (by have:=hR.len;omega) hR.todo a c)
theorem tN(hR:RH h)(e:0<=GM h id):RH (cancelled h id):=by
 have ho:=hR.one e;have j:=ho.size;have a:=hR.len;unfold cancelled;dsimp only;split
 .rename_i c;refine dT hR ho (g:=EX (dropped h (par h id)) (Q5 (dropped h (par h id)).BD (par h id).AZ)) (Rt hR ho c (.inr ⟨rfl,rfl⟩)) rfl rfl rfl rfl (by simp[EX,dropped,Cq]) ?_ rfl;exact Yt (by omega) hR.todo j.2.1.1 (by omega)
 .rename_i c;have s1:(par h id).State=1:=by have:=(FB ho.okp);omega
  have:=ho.pid;exact dT hR ho (g:=T9 h (par h id).AZ id) (AG7 hR ho s1) rfl rfl rfl rfl (by simp[T9,Cq]) hR.todo rfl
theorem ACg(hR:RH h)(B:k<h.AH.length){n:Int}(E:0<=n/\n<=60)(hl:(cbn h k).AX.GZ+n<=(cbn h k).AX.GA):RH (TS h k n):=by
 have q:=hR.len;have j:=hR.cb B;have kl:=GG.1 j.led;have c:El ⟨(cbn h k).AX.Total,(cbn h k).AX.D1+1*n,(cbn h k).AX.FL+0*n,(cbn h k).AX.GA+(-1)*n,(cbn h k).AX.GZ+0*n⟩=true:=by
  rw[GG];dsimp only;omega
 have y:=rR j.led E (by omega) (by omega) (by omega) (by omega) c;refine RH.mk' hR.rules hR.now hR.turn (by show (h.AH.set _ _).length=_;rw[BO];exact hR.Dt) hR.Ia ?_ (by show Hm (Q5 h.BD k) ((h.AH.set _ _).length:Nat)=true;rw[BO];exact Yt (by omega) hR.todo (by omega) (by omega)) (by show Jx h.BB ((h.AH.set _ _).length:Nat)=true;rw[BO];exact hR.F8) hR.Od;intro i hi;have g:i<h.AH.length:=by have:i<(h.AH.set (k:Int).toNat _).length:=hi;rw[BO]at this;exact this
 have a:=hR.cb g;show WI h.AQ h.AG h.Now i (cbn (Cq h k ⟨(l8 (cbn h k).AX n 1 0 (-1) 0).1,(cbn h k).Row,(cbn h k).B5⟩) i);rw[I1 (by omega) (by omega) (by omega)];by_cases e:(i:Int)=k
 .obtain rfl:i=k:=by omega
  rw[AW rfl,y];exact⟨a.row,a.HA,a.total,by dsimp only;rw[a.held];omega,by dsimp only;rw[a.Jf];omega,c,a.room⟩
 .rw[AT e];exact a
theorem rZ(hR:RH h)(a:k<h.AH.length):Ka h k=(cbn h k).AX.GA-(cbn h k).AX.GZ:=by
 have kl:=GG.1 (hR.cb a).led
 grind[Ka,cbn,A7]
theorem zA(hR:RH h)(E:0<=GM h id)(J:(par h id).State=2):RH (accepted h id):=by
 have ho:=hR.one E;have H:=ho.size;have y:=hR.len;have j:ANa h (par h id) _ (P2 h (par h id)):=Rt hR ho J (.inl ⟨rfl,rfl⟩);have g:RH (gone (P2 h (par h id)) (par h id)):=dT hR ho j rfl rfl rfl rfl (by simp[P2,Cq]) hR.todo rfl;unfold accepted;dsimp only;split
 .rename_i B;have ⟨k,q⟩:=Ah B;have c:k<h.AH.length:=by omega
  rw[q];refine ACg g (by rw[ACk];show k<((P2 h (par h id)).AH.length);simpa[P2,Cq] using c) (by omega) ?_;have a:=j k c;have kl:=GG.1 a.led;have I:=a.Jf;rw[Iu _ H.1,AW q]at I;have G:=AEE (h.AG.eraseP λx=>x.Id==id) k;have e:(P2 h (par h id)).AG.eraseP (λx=>x.Id==(par h id).Id)=h.AG.eraseP λx=>x.Id==id:=by rw[ho.pid];exact ho.cut
  grind[cbn,P2,GG,gone,Cq,rR]
 .exact g
theorem UD(a:Kv h id=0):0<=GM h id/\(par h id).State=2:=by
 unfold Kv at a;by_cases c:GM h id<0
 .grind
 .rw[AT c]at a;by_cases e:(h.AG.getD (GM h id).toNat xw).State=2
  .exact⟨by omega,e⟩
  grind
theorem Q7(a:verdict h q=0):IE h q=0/\KF q=true:=by
 grind[verdict,IE]
theorem AEJ(c:inB q.Kind 1 7=true)(e:KF q=true)(a:IE h q=0):(q.Kind=1->YB h q=0)/\(q.Kind=2->¬GM h q.Id<0) /\
 (q.Kind=3->q.AZ<h.AH.length/\inB q.BK 1 60=true/\q.BK<=Ka h q.AZ)/\(q.Kind=4\/q.Kind=5->Kv h q.Id=0)/\(q.Kind=6->h.Now<1000000):=by
 unfold IE at a;rw[c,e]at a;simp only[DZ,if_false]at a;refine⟨λk=>?_,λk=>?_,λk=>?_,λk=>?_,λk=>?_⟩
 .rw[AW k]at a;exact a
 .grind
 .grind
 .grind
 grind
theorem AV6(h:KF q=true):inB q.Kind 1 7=true:=by
 grind[KF,B8]
theorem Gu(a:verdict h q=0):(q.Kind=1->YB h q=0)/\(q.Kind=2->¬GM h q.Id<0) /\
 (q.Kind=3->q.AZ<h.AH.length/\inB q.BK 1 60=true/\q.BK<=Ka h q.AZ)/\(q.Kind=4\/q.Kind=5->Kv h q.Id=0)/\(q.Kind=6->h.Now<1000000):=
 AEJ (h:=h) (AV6 (Q7 a).2) (Q7 a).2 (Q7 a).1
theorem ACR(hR:RH h)(c:0<=GM h id)(q:(par h id).State=2):RH (ACQ h id):=by
 have ho:=hR.one c;have j:=ho.size;have a:=hR.len;have e:=Xi hR ho q;have g:=RS h (par h id);exact e.put j.2.1.1 (by have:=g.Dt;omega)
theorem AYt:∀{ps:List AU},(∀p∈ps,0<=p.AZ/\p.AZ<4)->(ps.length:Int)=DW ps 0+DW ps 1+DW ps 2+DW ps 3
 | [],_=>rfl|p::ps,h=>by
  have c:=AYt (ps:=ps) λq a=>h q (Ae _ a)
  grind[List.mem_cons_self,IS,List.length_cons]
theorem AN2{ps:List AU}{c:Int}(h:∀p∈ps,p.AZ≠c):DW ps c=0:=by
 induction ps with
 |nil=>rfl|cons p ps a=>
  grind[IS,List.mem_cons_self,List.mem_cons_of_mem]
theorem RH.cnt(hR:RH h)(c:Int):DW h.AG c<=h.AQ.Room:=by
 have a:=hR.len;have j:=CL hR.rules;by_cases e:0<=c/\c<h.AH.length
 .obtain⟨k,rfl⟩:=Ah e.1;exact(hR.cb (by omega)).room
 .rw[AN2 λp g=>?_]
  .omega
  .have:=FB (hR.Ia.par p g).1;omega
theorem rQ{size:Int}(hv:verdict h ⟨1,id,cabin,frm,size,tier⟩=0):RH (M8 h id cabin frm size tier)/\(M8 h id cabin frm size tier).AQ=h.AQ/\(M8 h id cabin frm size tier).AG.Perm (IF h id cabin frm size tier::h.AG)/\∀p∈h.AG,p.Id≠id:=by
 have hR:=Gv hv;have hlen:=hR.len;have hr:=CL hR.rules;have O:=hR.now;have hturn:=hR.turn;have j:=(Gu hv).1 rfl;have ha:=(Q7 hv).2;unfold KF at ha;rw[AW rfl]at ha;simp only[AF,RU,B8]at ha;have ⟨_,ha2,ha3,ha4,ha5⟩:=ha;unfold YB at j;dsimp only at j;by_cases c1:(h.AH.length:Int)<=cabin\/(h.AH.length:Int)<=frm\/frm=cabin
 .rw[AW c1]at j;cases j
 rw[AT c1]at j;by_cases c2:inB size 1 h.AQ.BK=false
 .rw[AW c2]at j;cases j
 rw[AT c2]at j;by_cases c3:h.AQ.CZ<=tier
 .rw[AW c3]at j;cases j
 rw[AT c3]at j;by_cases c4:inB id 1 999=false
 .rw[AW c4]at j;cases j
 rw[AT c4]at j;by_cases L:0<=GM h id
 .rw[AW L]at j;cases j
 rw[AT L]at j;by_cases c6:h.AQ.Room<=DW h.AG cabin
 .rw[AW c6]at j;cases j
 rw[AT c6]at j;by_cases c7:0<=frm/\Ka h frm<size
 .rw[AW c7]at j;cases j
 rw[AT c7]at j;by_cases c8:1000000<h.A4
 .rw[AW c8]at j;cases j
 have J:=B8.1 (by simpa using c2:inB size 1 h.AQ.BK=true);have c4':=B8.1 (by simpa using c4:inB id 1 999=true);have hfresh:∀p∈h.AG,p.Id≠id:=λp Q e=>L (by have:=(hR.xH Q).1;rw[e]at this;exact this)
 have hpput:∀p:AU,p.Id=id->LO h.AG p=put LB p h.AG:=by
  intro p Q;unfold LO;unfold GM at L;rw[Q,AT L]
 have ew:w64 (h.A4+1)=h.A4+1:=A7 (by omega) (by omega);have S:Dw h.AQ ⟨id,cabin,frm,size,tier,h.Now,h.A4,1,0,0⟩ h.Now=true:=by
  unfold Dw;simp only[AF,B8,Bool.or_eq_true,beq_iff_eq,A8,beq_eq_false_iff_ne];have e1:w64 ((h.AQ.AX.length:Int)-1)=(h.AQ.AX.length:Int)-1:=A7 (by omega) (by omega);have e2:w64 (h.AQ.CZ-1)=h.AQ.CZ-1:=A7 (by omega) (by omega);have e3:w64 (h.AQ.Cg-1)=h.AQ.Cg-1:=A7 (by omega) (by omega);have e4:w64 (h.Now+h.AQ.Rest)=h.Now+h.AQ.Rest:=A7 (by omega) (by omega);rw[e1,e2,e3,e4];refine⟨hR.rules,O,c4',by omega,by omega,by omega,J,by omega,by omega,by omega,by omega,.inl ⟨trivial,by omega⟩⟩
 have hperm:(put LB (IF h id cabin frm size tier) h.AG).Perm (IF h id cabin frm size tier::h.AG):=YQ _ _;have hpn:∀q:AU,q∈IF h id cabin frm size tier::h.AG->q=IF h id cabin frm size tier\/q∈h.AG:=λq E=>Ad.1 E
 have hPR:RE h.AQ h.Now (h.A4+1) (put LB (IF h id cabin frm size tier) h.AG):=by
  refine⟨?_,?_,?_,?_⟩
  .rw[GH];have h4:=AYt (ps:=h.AG) λp Q=>by have:=FB (hR.Ia.par p Q).1;omega
   have r0:=hR.cnt 0;have r1:=hR.cnt 1;have r2:=hR.cnt 2;have r3:=hR.cnt 3;rcases(show cabin=0\/cabin=1\/cabin=2\/cabin=3 by omega) with e|e|e|e<;>rw[e]at c6<;>omega
  .intro q E;rcases hpn q (hperm.subset E) with rfl|E
   .exact⟨S,by show h.A4<h.A4+1;omega⟩
   .have:=hR.Ia.par q E;exact⟨this.1,by omega⟩
  .have hd:SN LB (IF h id cabin frm size tier::h.AG):=by
    unfold SN;rw[Bj];refine⟨λq E=>?_,hR.Ia.ids.imp λh=>.inl (by unfold LB;rw[decide_eq_true_iff];exact h)⟩;have:=hfresh q E;unfold LB;rw[decide_eq_true_iff,decide_eq_true_iff];show id<q.Id\/q.Id<id;omega
   have hs:Dd LB h.AG=h.AG:=Qg lZ (hR.Ia.ids.imp λh=>by unfold LB;rw[decide_eq_true_iff];exact h);have:=Mu lZ hd;rw[He,hs]at this;exact this.imp λh=>by unfold LB at h;simpa using h
  .rw[hperm.pairwise_iff (λ{a b} h=>by rw[AEe];exact h),Bj];refine⟨λq E=>?_,hR.Ia.turns⟩;have h1:=hR.Ia.par q E;have h2:=FB h1.1;unfold Ix IF;simp only[Bool.or_eq_false_iff,beq_eq_false_iff_ne,Bool.and_eq_false_iff,decide_eq_false_iff_not];refine⟨by omega,.inl (by omega),.inr (by omega)⟩
 have hu:=hPR.uni;have hz:1<=(IF h id cabin frm size tier).BK/\(IF h id cabin frm size tier).BK<=6:=⟨J.1,by show size<=6;omega⟩;have hmain:RH (if 0<=frm then Jf (HI ⟨h.AQ,h.Now,w64 (h.A4+1),LO h.AG (IF h id cabin frm size tier),h.AH,h.BD,h.BB⟩ (IF h id cabin frm size tier)) frm size else HI ⟨h.AQ,h.Now,w64 (h.A4+1),LO h.AG (IF h id cabin frm size tier),h.AH,h.BD,h.BB⟩ (IF h id cabin frm size tier)):=by
  rw[hpput _ rfl,ew];generalize hP:IF h id cabin frm size tier=p at *;have q1:p.AZ=cabin:=by rw[<-hP];rfl
  have q2:p.Bz=frm:=by rw[<-hP];rfl
  have q3:p.BK=size:=by rw[<-hP];rfl
  have q4:p.State=1:=by rw[<-hP];rfl
  have q5:Dw h.AQ p h.Now=true:=by rw[<-hP];exact S
  have hx:∀i:Nat,i<h.AH.length->SY h.AQ (put LB p h.AG) h.AG h.Now i (cbn (HI ⟨h.AQ,h.Now,h.A4+1,put LB p h.AG,h.AH,h.BD,h.BB⟩ p) i):=by
   intro i hi;unfold HI;rw[I1 (by omega) (by show p.AZ<(h.AH.length:Int);omega) (by omega)];have y:=hR.cb hi;refine SY.perm ?_ (hu.perm hperm) hperm.symm (.refl _);by_cases e:(i:Int)=p.AZ
   .rw[AW e,<-e];refine⟨?_,?_,y.total,?_,y.Jf,y.led,?_⟩
    .dsimp only;rw[Kc _ q5 q4,AW e.symm,RQ q5 q4];show put ltE _ (cbn h i).Row=_;rw[y.row]
    .dsimp only;rw[N4 _ (by omega)];exact y.HA
    .dsimp only;rw[Ny _ (by omega)];exact y.held
    .rw[IS,AW e.symm];have:(i:Int)=cabin:=by omega
     rw[this];omega
   .rw[AT e];refine⟨?_,?_,y.total,?_,y.Jf,y.led,?_⟩
    .rw[Kc _ q5 q4,AT (Ne.symm e)];exact y.row
    .rw[N4 _ (by omega)];exact y.HA
    .rw[Ny _ (by omega)];exact y.held
    .rw[IS,AT (Ne.symm e),GR];exact y.room
  have hXl:(HI ⟨h.AQ,h.Now,h.A4+1,put LB p h.AG,h.AH,h.BD,h.BB⟩ p).AH.length=h.AH.length:=by simp[HI,Cq]
  have hX:Kept (⟨h.AQ,h.Now,h.A4+1,put LB p h.AG,h.AH,h.BD,h.BB⟩:AE) (HI ⟨h.AQ,h.Now,h.A4+1,put LB p h.AG,h.AH,h.BD,h.BB⟩ p):=⟨rfl,rfl,rfl,hXl,rfl,rfl⟩;have hXs:∀i:Nat,(cbn (HI ⟨h.AQ,h.Now,h.A4+1,put LB p h.AG,h.AH,h.BD,h.BB⟩ p) i).AX=(cbn h i).AX:=by
   intro i;unfold HI;rw[I1 (by omega) (by show p.AZ<(h.AH.length:Int);omega) (by omega)];by_cases e:(i:Int)=p.AZ
   .rw[AW e,e];rfl
   .rw[AT e];rfl
  have hXp:(HI ⟨h.AQ,h.Now,h.A4+1,put LB p h.AG,h.AH,h.BD,h.BB⟩ p).AG=put LB p h.AG:=rfl;generalize HI ⟨h.AQ,h.Now,h.A4+1,put LB p h.AG,h.AH,h.BD,h.BB⟩ p=X at *;have ⟨B,I,Z,G,x5,x6⟩:=hX;dsimp only at B I Z G x5 x6;split
  .rename_i f0;have ⟨k,hk⟩:=Ah f0;have hkl:k<h.AH.length:=by omega
   have hlo:=rZ hR hkl;have hsz:size<=Ka h frm:=by
    rcases Int.lt_or_le (Ka h frm) size with c|c
    .exact absurd ⟨f0,c⟩ c7
    .exact c
   refine RH.mk' (by show Ds X.AQ=true;rw[B];exact hR.rules) (by show 0<=X.Now/\X.Now<=1000000;rw[I];exact hR.now) (by show 1<=X.A4/\X.A4<=1000001;rw[Z];omega) (by simp only[Jf,Cq,BO];rw[G,B];exact hR.Dt) (by show RE X.AQ X.Now X.A4 X.AG;rw[B,I,Z,hXp];exact hPR) ?_
    (by simp only[Jf,Cq,BO];rw[G,x5];exact hR.todo) (by simp only[Jf,Cq,BO];rw[G,x6];exact hR.F8) (by show (X.BB.length:Int)=X.AQ.C4;rw[x6,B];exact hR.Od)
   intro i hi;have H:i<h.AH.length:=by simp only[Jf,Cq,BO]at hi;rw[G]at hi;exact hi
   have g:=hx i H;unfold Jf;rw[I1 f0 (by omega) (by omega)];show WI X.AQ X.AG X.Now i _;rw[B,I,hXp];refine SY.full (SY.perm (ps:=put LB p h.AG) (qs:=p::h.AG) ?_ hu (.refl _) hperm.symm);by_cases e:(i:Int)=frm
   .obtain rfl:i=k:=by omega
    rw[AW e,<-e];have kl:=GG.1 g.led;have hsame:=hXs i;have hl:El ⟨(cbn X i).AX.Total,(cbn X i).AX.D1+0*size,(cbn X i).AX.FL+0*size,(cbn X i).AX.GA+0*size,(cbn X i).AX.GZ+1*size⟩=true:=by
     rw[GG];dsimp only;rw[hk,hlo,<-hsame]at hsz;omega
    rw[rR g.led (by omega) (by omega) (by omega) (by omega) (by omega) hl];refine⟨g.row,g.HA,g.total,by dsimp only;rw[g.held];omega,?_,hl,g.room⟩;dsimp only;rw[Iu _ hz,AW (by omega),g.Jf];omega
   .rw[AT e];refine⟨g.row,g.HA,g.total,g.held,?_,g.led,g.room⟩;rw[Iu _ hz,AT (by omega),g.Jf];omega
  .rename_i f0;refine RH.mk' (by rw[B];exact hR.rules) (by rw[I];exact hR.now) (by rw[Z];omega) (by rw[G,B];exact hR.Dt) (by rw[B,I,Z,hXp];exact hPR) ?_ (by rw[G,x5];exact hR.todo) (by rw[G,x6];exact hR.F8) (by rw[x6,B];exact hR.Od);intro i hi;have H:i<h.AH.length:=by omega
   have g:=hx i H;rw[B,I,hXp];refine SY.full (SY.perm (ps:=put LB p h.AG) (qs:=p::h.AG) ?_ hu (.refl _) hperm.symm);refine⟨g.row,g.HA,g.total,g.held,?_,g.led,g.room⟩;rw[Iu _ hz,AT (by omega),g.Jf];omega
 unfold M8;dsimp only;generalize hY:(if 0<=frm then Jf (HI ⟨h.AQ,h.Now,w64 (h.A4+1),LO h.AG (IF h id cabin frm size tier),h.AH,h.BD,h.BB⟩ (IF h id cabin frm size tier)) frm size else HI ⟨h.AQ,h.Now,w64 (h.A4+1),LO h.AG (IF h id cabin frm size tier),h.AH,h.BD,h.BB⟩ (IF h id cabin frm size tier))=Y at *;have hYc:Y.AH.length=h.AH.length:=by rw[<-hY];split<;>simp[Jf,HI,Cq]
 have hYp:Y.AG=put LB (IF h id cabin frm size tier) h.AG:=by rw[<-hY,hpput _ rfl];split<;>rfl
 have hYr:Y.AQ=h.AQ:=by rw[<-hY];split<;>rfl
 exact⟨hmain.put (by omega) (by omega),hYr,by show Y.AG.Perm _;rw[hYp];exact hperm,hfresh⟩
theorem zZ(h:AE)(l:List Int)(j:Int):cbn (EX h l) j=cbn h j:=rfl
theorem ANS(hi:i<h.AH.length)(a:0<=j):cbn (Li h i) j=if j=i then ⟨(cbn h i).AX,D5 h.AQ h.AG i h.Now,(cbn h i).B5⟩ else cbn h j:=by
 grind[Li,zZ,I1]
structure Tk(h g:AE):Prop where
 rules:g.AQ=h.AQ
 now:g.Now=h.Now
 turn:g.A4=h.A4
 Dt:g.AH.length=h.AH.length
 Ia:g.AG=h.AG
 F8:g.BB=h.BB
theorem AEC:Tk h (Li h i):=by
 unfold Li;dsimp only;split
 .exact⟨rfl,rfl,rfl,by simp[EX,Cq],rfl,rfl⟩
 .exact⟨rfl,rfl,rfl,by simp[Cq],rfl,rfl⟩
theorem AG4(hi:i<h.AH.length)(hl:h.AH.length<=1048576)(a:Hm h.BD h.AH.length=true):Hm (Li h i).BD h.AH.length=true:=by
 unfold Li;dsimp only;split
 .exact Yt hl a (by omega) (by omega)
 .exact a
theorem sb:∀(k i:Nat) {h:AE},i+k=h.AH.length->h.AH.length<=1048576->Hm h.BD h.AH.length=true ->
 Tk h (LK k i h)/\Hm (LK k i h).BD h.AH.length=true/\∀j:Nat,j<h.AH.length->cbn (LK k i h) j=if i<=j then ⟨(cbn h j).AX,D5 h.AQ h.AG j h.Now,(cbn h j).B5⟩ else cbn h j
 |0,i,h,e,hl,c=>⟨⟨rfl,rfl,rfl,rfl,rfl,rfl⟩,c,λj q=>by rw[AT (by omega)];rfl⟩|k+1,i,h,e,hl,c=>by
  have hi:i<h.AH.length:=by omega
  have t:=AEC (h:=h) (i:=i);have ⟨a,g,a3⟩:=sb k (i+1) (h:=Li h i) (by rw[t.Dt];omega) (by rw[t.Dt];exact hl) (by rw[t.Dt];exact AG4 hi hl c);unfold LK;refine⟨⟨a.rules.trans t.rules,a.now.trans t.now,a.turn.trans t.turn,a.Dt.trans t.Dt,a.Ia.trans t.Ia,a.F8.trans t.F8⟩,by rw[t.Dt]at g;exact g,?_⟩;intro j q;rw[a3 j (by rw[t.Dt];exact q),t.rules,t.Ia,t.now,ANS hi (by omega)]
  grind
theorem ADP(h:Dw r p now=true)(a:now<1000000):Dw r p (now+1)=true:=by
 grind[CL,Dw,B8,A7]
theorem ANU(hR:RH h)(O:h.Now<1000000):RH (yj h)/\Tk ⟨h.AQ,h.Now+1,h.A4,h.AG,h.AH,h.BD,h.BB⟩ (yj h):=by
 have I:=hR.len;have J:=hR.now;have ew:w64 (h.Now+1)=h.Now+1:=A7 (by omega) (by omega);unfold yj;rw[ew];have ⟨G,H,a3⟩:=sb h.AH.length 0 (h:=⟨h.AQ,h.Now+1,h.A4,h.AG,h.AH,h.BD,h.BB⟩) (by dsimp only;omega) (by dsimp only;omega) hR.todo;refine⟨?_,G⟩;generalize LK h.AH.length 0 (⟨h.AQ,h.Now+1,h.A4,h.AG,h.AH,h.BD,h.BB⟩:AE)=g at *;have ⟨a,j,y,q,B,E⟩:=G;dsimp only at a j y q B E H a3;have hP:RE h.AQ (h.Now+1) h.A4 h.AG:=⟨hR.Ia.few,λp L=>⟨ADP (hR.Ia.par p L).1 O,(hR.Ia.par p L).2⟩,hR.Ia.ids,hR.Ia.turns⟩;refine RH.mk' (by rw[a];exact hR.rules) (by rw[j];omega) (by rw[y];exact hR.turn) (by rw[q,a];exact hR.Dt) (by rw[a,j,y,B];exact hP) ?_ (by rw[q];exact H) (by rw[q,E];exact hR.F8) (by rw[E,a];exact hR.Od);intro i hi;have e:i<h.AH.length:=by omega
 rw[a,j,B,a3 i e,AW (D4 _)];have c:=hR.cb e;exact⟨rfl,c.HA,c.total,c.held,c.Jf,c.led,c.room⟩
theorem ACy(e:n<=1048576)(h:Jx l n=true)(i:Nat)(a:-1<=x)(c:x<n):Jx (l.set i x) n=true:=by
 grind[Jx,B8,A7]
theorem ALh{who:Int}(E:verdict h ⟨7,who,0,0,0,0⟩=0):RH (Vy h who).1/\(Vy h who).1.AQ=h.AQ:=by
 have hR:=Gv E;have q:=hR.len;have ⟨n,y,e,H⟩:=SL rfl E;dsimp only at e;have eg:h.BB.getD who.toNat 0=h.BB[n]:=by rw[e,Af,BA,AR y];rfl
 unfold Vy;rw[eg];split
 .rename_i j;have B:0<h.BD.length:=by
   grind
  have G:h.BD.getD 0 0=h.BD[0]:=by rw[BA,AR B];rfl
  have a:=nX.1 hR.todo;have c:=a.1 _ (Ao B);rw[A7 (by omega) (by omega)]at c;have hR1:RH (EX h (h.BD.drop 1)):=hR.EX (nX.2 ⟨λk g=>a.1 k (List.mem_of_mem_drop g),a.2.sublist (List.drop_sublist _ _)⟩);refine⟨hR1.Q8 ?_ (by rw[BO];rfl),rfl⟩;rw[G];exact ACy (by show h.AH.length<=_;omega) hR.F8 _ (by omega) (by show _<(h.AH.length:Int);omega)
 .rename_i j;have ⟨k,g,ek⟩:=hR.job y j;rw[ek];have ⟨s1,I,J⟩:=V5 hR g;have sl:=s1.len;refine⟨s1.Q8 ?_ (by rw[BO]),I.rules⟩;exact ACy (by omega) s1.F8 _ (by omega) (by omega)
theorem AY2(hR:RH h)(q:Bp):RH (doF h q).1/\(doF h q).1.AQ=h.AQ:=by
 unfold doF;by_cases O:verdict h q=0
 .rw[AT (not_not_intro O)];by_cases g:q.Kind=1
  .rw[AW g];unfold bY;by_cases a:verdict h ⟨1,q.Id,q.AZ,q.Bz,q.BK,q.DS⟩=0
   .rw[AT (not_not_intro a)];have:=rQ a;exact⟨this.1,this.2.1⟩
   .rw[AW a];exact⟨hR,rfl⟩
  rw[AT g];by_cases j:q.Kind=2
  .rw[AW j];unfold O9;by_cases a:verdict h ⟨2,q.Id,0,0,0,0⟩=0
   .rw[AT (not_not_intro a)];refine⟨tN hR (by have:=(Gu a).2.1 rfl;dsimp only at this;omega),?_⟩;unfold cancelled;dsimp only;split<;>exact(ZZ _ _).rules
   .rw[AW a];exact⟨hR,rfl⟩
  rw[AT j];by_cases y:q.Kind=3
  .rw[AW y];unfold bK;by_cases a:verdict h ⟨3,0,q.AZ,0,q.BK,0⟩=0
   .rw[AT (not_not_intro a)];have c:=(Gu a).2.2.1 rfl;dsimp only at c;have ⟨_,H,Q⟩:=SK a;have ⟨k,I⟩:=Ah H;have e:k<h.AH.length:=by omega
    have J:=rZ hR e;have L:=B8.1 c.2.1;rw[I]at c ⊢;exact⟨ACg hR e (by omega) (by omega),rfl⟩
   .rw[AW a];exact⟨hR,rfl⟩
  rw[AT y];by_cases B:q.Kind=4
  .rw[AW B];unfold O4;by_cases a:verdict h ⟨4,q.Id,0,0,0,0⟩=0
   .rw[AT (not_not_intro a)];have c:=UD ((Gu a).2.2.2.1 (.inl rfl));refine⟨zA hR c.1 c.2,?_⟩;unfold accepted;dsimp only;split<;>exact(ZZ _ _).rules
   .rw[AW a];exact⟨hR,rfl⟩
  rw[AT B];by_cases E:q.Kind=5
  .rw[AW E];unfold Mm;by_cases a:verdict h ⟨5,q.Id,0,0,0,0⟩=0
   .rw[AT (not_not_intro a)];have c:=UD ((Gu a).2.2.2.1 (.inr rfl));exact⟨ACR hR c.1 c.2,(RS h _).rules⟩
   .rw[AW a];exact⟨hR,rfl⟩
  rw[AT E];by_cases G:q.Kind=6
  .rw[AW G];unfold cF;by_cases a:verdict h ⟨6,0,0,0,0,0⟩=0
   .rw[AT (not_not_intro a)];have:=ANU hR ((Gu a).2.2.2.2 rfl);exact⟨this.1,this.2.rules⟩
   .rw[AW a];exact⟨hR,rfl⟩
  .rw[AT G];unfold VH;by_cases a:verdict h ⟨7,q.Id,0,0,0,0⟩=0
   .rw[AT (not_not_intro a)];exact ALh a
   .rw[AW a];exact⟨hR,rfl⟩
 grind
theorem kO:∀(l:List Bp) {h:AE},RH h->RH (D7 l h).1/\(D7 l h).1.AQ=h.AQ
 | [],h,hR=>⟨hR,rfl⟩|q::l,h,hR=>by
  have a:=AY2 hR q;have c:=kO l a.1;exact⟨c.1,c.2.trans a.2⟩
end Lv.P
