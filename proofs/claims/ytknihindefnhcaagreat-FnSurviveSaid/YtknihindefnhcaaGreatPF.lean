/- Plain laws about what the program computes. -/
import Derived.Test.YtknihindefnhcaaGreatKD
import Derived.Test.YtknihindefnhcaaGreatPA
set_option linter.all false
noncomputable section
open Bool renaming and_eq_true->AD,and_false->D3,not_eq_true'->BE,true_eq_false->Dq
open Int renaming eq_ofNat_of_zero_le->AX,toNat_natCast->Ah,zero_add->Gy
open List renaming all_eq_true->B2,any_cons->Nl,any_eq_false->LB,append_assoc->BF,append_nil->CO,cons_append->A8,drop_eq_nil_of_le->A9,drop_length->Cx,drop_zero->CX,eraseP_cons_of_neg->Ig,eraseP_cons_of_pos->Ih,eraseP_sublist->Jx,ext_getElem->Ii,filterMap_cons->Jy,filter_append->Kf,filter_cons->Gf,flatMap_cons->CV,flatten_append->D6,flatten_cons->GO,foldl_cons->Bu,getD_eq_getElem?_getD->BB,getElem?_eq_getElem->AU,getElem_map->Li,getElem_mem->Aw,getElem_range->Kh,length_append->AH,length_cons->AK,length_drop->BD,length_filterMap_le->B8,length_map->Af,length_nil->AT,length_set->An,length_take->Ag,map_congr_left->J0,map_cons->AJ,map_eq_flatMap->J1,map_id->Pb,map_map->DU,mem_append->Br,mem_cons->Ae,mem_cons_of_mem->Am,mem_cons_self->BQ,mem_flatten->FV,mem_iff_getElem->DF,mem_or_eq_of_mem_set->Cb,mem_singleton->EL,nil_append->Az,pairwise_cons->Bn,pairwise_filterMap->E0,pairwise_iff_getElem->Cq,pairwise_singleton->Ij,perm_middle->Lk,set_eq_take_append_cons_drop->GC,singleton_append->JP,take_add_one->Cg,take_append_drop->CL,take_of_length_le->BH,take_sublist->IG
open List.cons renaming injEq->B3
open Nat renaming add_assoc->CW,le_refl->Aj,le_succ->Dg,le_trans->Ax,lt_or_ge->AV,zero_le->ER
open Option renaming getD_some->DN
namespace Lv.P
open Lv Go
variable{w:A2}{g h:AF}{p:AR}{r:Ad}{c:Ak}{e:Ar}{q:Bo}{id j now sz tr turn x:Int}{a b ps qs rest:List AR}{S T:List Bf}{l t:List Int}{s:List UInt8}{f i k m n:Nat}{o:Type}
def Xr(w:A2)(p:Bf):A2:=⟨w.Av.set (p.At.tmod 9).toNat (put ltP p (w.Av.getD (p.At.tmod 9).toNat []))⟩
def PF(w:A2)(p:Bf):A2×Bool:=if Iu w=true/\TW p=true/\Iu (Xr w p)=true then (Xr w p,true) else (w,false)
theorem O2{p:Bf}(h:TW p=true):(1<=p.At/\p.At<=1000008)/\1<=p.Id/\p.Id<=999:=by grind[TW,B6]
theorem fT{n:Int}(h:1<=n):∃k:Nat,k<9/\n.tmod 9=(k:Int):=by obtain⟨m,rfl⟩:=AX (show 0<=n by omega);refine⟨m % 9,Nat.mod_lt _ (by omega),?_⟩;rw[Int.tmod_eq_emod_of_nonneg (by omega)];rfl
theorem mJ{l:List (List o)}(h:k<l.length)(x:List o):(l.set k x).flatten.length+l[k].length=l.flatten.length+x.length:=by grind[List.set_eq_take_append_cons_drop,List.take_append_drop,List.drop_eq_getElem_cons]
theorem AXS{l:List (List o)}(h:k<l.length){x:List o}{a:o}(c:a∈x):a∈(l.set k x).flatten:=by rw[FV];exact⟨x,List.mem_set h _,c⟩
theorem pV(g:Q6 w){p:Bf}(q:1<=p.At):DQ (Xr w p)/\p∈(Xr w p).Av.flatten:=by
 have ⟨k,E,e⟩:=fT q;have y:=g.nine;have B:=g.few;unfold Xr;rw[e,Ah];have a:k<w.Av.length:=by omega
 have j:=mJ a (put ltP p (w.Av.getD k []));have c:w.Av.getD k []=w.Av[k]:=by simp[List.getD,a]
 rw[c,GU]at j;refine⟨⟨by rw[An];omega,by dsimp only;rw[c];omega⟩,AXS a (WE.2 (.inl rfl))⟩
theorem Nf(g:DQ w)(p:Bf):Yn w p=some (PF w p):=by
 unfold Yn j7 be;rw[Vn g,AB,JN g,AB,BW];by_cases hB:Iu w=true;have hP:=ET.1 hB;rw[hB,CB,AW,BV];by_cases q:p.At<1;rw[AY q];unfold PF;rw[Aa];rintro⟨_,c,_⟩;have:=O2 c;omega;rw[Aa q];have ⟨y,E⟩:=pV hP (p:=p) (by omega);have ⟨k,I,e⟩:=fT (n:=p.At) (by omega);have H:=hP.nine;have B:=hP.few;have a:k<w.Av.length:=by omega
 have c:w.Av.getD k []=w.Av[k]:=by simp[List.getD,a]
 have G:=Ly a;have j:(A2.mk (w.Av.set k (put ltP p w.Av[k])))=Xr w p:=by unfold Xr;rw[e,Ah,c]
 simp only[e,BT a,AB,Xi (l:=w.Av[k]) (by unfold lim;omega) p,Ah,j,JN y,Vn g,BW];unfold PF;cases hB2:Iu (Xr w p) with
 |false=>rw[CI,Aa (by simp)]|true=>rw[CB,AY ⟨hB,(ET.1 hB2).pins p E,rfl⟩]
 grind[CI,AW,CB,PF]
theorem Wk(G:DQ w)(p:Bf):ABu w p=some (PF w p):=by
 unfold ABu kF be;rw[Vm G,AB,JG G,AB,BW];by_cases hB:Iu w=true;have hP:=ET.1 hB;rw[hB,CB,XQ,AB,AW,BW];cases E:TW p with
 |false=>rw[CI];unfold PF;rw[E,Aa (by simp)]
 |true=>
  have q:=(O2 E).1.1;rw[CB];have ⟨J,hm⟩:=pV hP q;have ⟨k,hk,e⟩:=fT q;have Z:=hP.nine;have O:=hP.few;have a:k<w.Av.length:=by omega
  have I:w.Av.getD k []=w.Av[k]:=by simp[List.getD,a]
  have X:=Ly a;have H:(A2.mk (w.Av.set k (put ltP p w.Av[k])))=Xr w p:=by unfold Xr;rw[e,Ah,I]
  have j:∀i:Nat,i<=w.Av[k].length->∀s:List Bf,s=w.Av[k].take i++p::w.Av[k].drop i->kG w p w w.Av[k] (i:Int)=(bd (Tx (A2.mk (w.Av.set k s))) λx=>br (!x) (some (w,false)) (some (A2.mk (w.Av.set k s),true))):=by
   intro i hi s S;have g:AXw w.Av[k] (i:Int) [p]=@some (C.l (.st 5)).D s:=by show pq (.st 5) w.Av[k] (i:Int) [p]=some s;have y:(0:Int)<=i/\(i:Int).toNat<=w.Av[k].length/\[p]≠([]:List Bf)/\w.Av[k].length+[p].length<=lim:=⟨by omega,by simpa using hi,by simp,by rw[ADU];unfold lim;omega⟩;unfold pq;refine(AY y).trans ?_;rw[S,Ah];congr 1;exact BF _ _ _
   unfold kG be;have Q:Y.OR k 0 [U.sl (C.st 5) s].length [(k,0)]:=⟨rfl,⟨Aj _,by simp⟩,trivial⟩;rw[g];refine(AB (o:=List Bf) s _).trans ?_;simp only[e,BT a,AB,Ah,D2 Q,Vm G]
  simp only[e,BT a,AB];have hloop:=VN (lt:=ltP) (F:=Yu w p w w.Av[k]) (l:=w.Av[k]) (x:=p) (λs=>bd (Tx (A2.mk (w.Av.set k s))) λx=>br (!x) (some (w,false)) (some (A2.mk (w.Av.set k s),true))) (by omega) ?_ ?_;rw[hloop,H,JG J,AB,BW];unfold PF;cases hB2:Iu (Xr w p) with|false=>rw[CI,Aa (by simp)]|true=>rw[CB,AY ⟨hB,E,rfl⟩]
  intro L i hi;unfold Yu Yt;have ⟨c,y,B,_⟩:=PN w.Av[k][i] p;rw[bnT hi,BT hi,AB,y,AB,AW,B,AW,j i (by omega) _ rfl];intro L;unfold Yu Yt;rw[bnJ,brJ,j _ (Aj _) (w.Av[k]++[p]) (by simp)]
 grind[CI,AW,CB,PF]
theorem ar(a:DQ w)(p:Bf):DQ (PF w p).1:=by grind[PF,pV,ET,O2]
def Wz:List Bf->A2->A2×Bool| [],w=>(w,true)|p::ps,w=>if (PF w p).2=true then Wz ps (PF w p).1 else (⟨[]⟩,false)
def Ni(l:List Bf):A2×Bool:=Wz l ⟨List.replicate 9 []⟩
theorem Tr:DQ ⟨List.replicate 9 []⟩:=by constructor<;>simp
theorem uR{l:List Bf}{F:(Int×A2->AA (A2×Bool))->Int×A2->AA (A2×Bool)}(hl:l.length<2 ^ 62)
 (step:∀L (i:Nat) (h:i<l.length) w,DQ w->F L ((i:Int),w)=br (!(PF w l[i]).2) (some (⟨[]⟩,false)) (L (w64 ((i:Int)+1),(PF w l[i]).1)))
 (stop:∀L w,F L ((l.length:Int),w)=some (w,true)):BK F big (0,⟨List.replicate 9 []⟩)=some (Ni l):=by
 refine(Dl (n:=l.length) (λi (w:A2)=>((i:Int),w)) (λ_ w=>DQ w) (λi w=>some (Wz (l.drop i) w)) (by omega) ?_ (v:=⟨List.replicate 9 []⟩) Tr).trans (by simp[Ni]);intro L i w a hi c;rcases AV i l.length with h|h;rw[step L i h w a,Bh h,D4 h,Wz,BW];cases e:(PF w l[i]).2 with|true=>rw[CB,c _ (ar a _) h];rfl|false=>rfl
 grind[Wz]
theorem zt{l:List Bf}(hl:l.length<=1048576):AId l=some (Ni l):=by unfold AId;rw[TQ,AB];refine uR (by omega) ?_ ?_;intro L i h w a;unfold jv;grind[CB,BT,AB,Nf,Cy];grind[jv,Yi,CI,AW]
theorem yU{l:List Bf}(hl:l.length<=1048576):AIa l=some (Ni l):=by unfold AIa;rw[AGn,AB];grind[uR,ABb,CB,BT,AB,Wk,Yi,CI,AW]
theorem uS:∀(l:List Bf) {w:A2},DQ w->DQ (Wz l w).1
 | [],w,a=>a|p::ps,w,a=>by unfold Wz;split;exact uS ps (ar a p);constructor<;>simp
theorem fU(l:List Bf):DQ (Ni l).1:=uS l Tr
section
variable{o:Type}{lt:o->o->Bool}
theorem II(a:o)(l:List o):Dv lt (a::l)=put lt a (Dv lt l):=rfl
theorem nE(h:Swo lt)(B:∀a b,lt a b=false->lt b a=false->a=b){g j:List o}(q:g.Perm j):Dv lt g=Dv lt j:=by
 induction q with
 |nil=>rfl|cons x _ E=>rw[II,II,E]|swap x y l=>rw[II,II,II,II,zP h B]|trans _ _ c e=>exact c.trans e
theorem ADt{a:o}{l:List o}(h:∀b∈l,lt b a=false):put lt a l=a::l:=by
 cases l with
 |nil=>rfl|cons z l=>rw[put,Aa (by rw[h z (BQ ..)];simp)]
theorem ADu{a:o}:∀{l:List o},(∀b∈l,lt b a=true)->put lt a l=l++[a]
 | [],_=>rfl|z::l,h=>by rw[put,AY (h z (BQ ..)),ADu λb c=>h b (Am _ c)];rfl
theorem uC(h:Swo lt){a z:o}{l:List o}(y:Srt lt (z::l))(j:lt z a=false):∀b∈z::l,lt b a=false:=by
 intro b g;rcases Ae.1 g with rfl|g;exact j;have q:=(Bn.1 y).1 b g;cases e:lt b a with
 |false=>rfl|true=>rcases h.neg b z a e with c|c;rw[q]at c;cases c;rw[j]at c;cases c
theorem AKq(h:Swo lt)(a:o):∀{l:List o},Srt lt l->Srt lt (put lt a l)
 | [],_=>Ij _ _|z::l,c=>by rw[put];split;rename_i g;refine Bn.2 ⟨?_,AKq h a (Bn.1 c).2⟩;intro b e;rcases WE.1 e with rfl|e;exact h.uf _ _ g;exact(Bn.1 c).1 b e;rename_i g;exact Bn.2 ⟨uC h c (by simpa using g),c⟩
theorem V1(h:Swo lt):∀l:List o,Srt lt (Dv lt l)| []=>List.Pairwise.nil|a::l=>AKq h a (V1 h l)
theorem XD(h:Swo lt)(q:o->Bool)(a:o):∀{l:List o},Srt lt l->(put lt a l).filter q=if q a=true then put lt a (l.filter q) else l.filter q
 | [],_=>by by_cases e:q a=true<;>simp[put,e]|z::l,c=>by have j:=XD h q a (Bn.1 c).2;rw[put];split;grind[put];rename_i g;have habove:=uC h c (by simpa using g);rw[Gf];grind[ADt]
theorem Ou(h:Swo lt)(q:o->Bool):∀l:List o,(Dv lt l).filter q=Dv lt (l.filter q)
 | []=>rfl|a::l=>by rw[II,XD h q a (V1 h l),Ou h q l,Gf];grind[II]
theorem SF(h:Swo lt):∀{l:List o},(l.Pairwise λa b=>lt a b=true)->Dv lt l=l
 | [],_=>rfl|a::l,c=>by rw[II,SF h (Bn.1 c).2,ADt];intro b e;exact h.uf _ _ ((Bn.1 c).1 b e)
theorem Pg(h:Swo lt):∀{l:List o},(∀k (q:k+1<l.length),lt l[k] l[k+1]=true)->l.Pairwise λa b=>lt a b=true
 | [],_=>List.Pairwise.nil| [a],_=>Ij _ _|a::b::l,j=>by have y:=Pg h (l:=b::l) λk q=>j (k+1) (by simpa using q);have g:lt a b=true:=j 0 (by simp);refine Bn.2 ⟨?_,y⟩;intro c e;rcases Ae.1 e with rfl|e;exact g;exact h.trans g ((Bn.1 y).1 c e)
end
theorem Zr{o β:Type}{f g:β->List o}:∀{l:List β},(∀i∈l,(f i).Sublist (g i))->(l.map f).flatten.Sublist (l.map g).flatten
 | [],_=>List.Sublist.slnil|i::l,h=>by simp only[AJ,GO];exact(h i (BQ ..)).append (Zr λj a=>h j (Am _ a))
def G6(i:Nat)(p:Bf):Bool:=p.At.tmod 9==(i:Int)
theorem Lp{p:Bf}:G6 i p=true↔p.At.tmod 9=(i:Int):=by unfold G6;exact beq_iff_eq
theorem Xk(E:Q6 w)(hi:i<w.Av.length):(w.Av.flatten).filter (G6 i)=w.Av[i]:=by
 have g:∀j (a:j<w.Av.length),∀p∈w.Av[j],p.At.tmod 9=(j:Int):=by intro j a p c;obtain⟨k,q,rfl⟩:=DF.1 c;exact E.at_ j a k q
 have e:w.Av.flatten=(w.Av.take i).flatten++(w.Av[i]++(w.Av.drop (i+1)).flatten):=by
  conv=>lhs;rw[<-CL i w.Av,List.drop_eq_getElem_cons hi]
  simp only[D6,GO]
 have G:((w.Av.take i).flatten).filter (G6 i)=[]:=by grind[List.filter_eq_nil_iff,List.mem_flatten,List.mem_iff_getElem,Lp]
 have H:((w.Av.drop (i+1)).flatten).filter (G6 i)=[]:=by rw[List.filter_eq_nil_iff];intro p c;have ⟨s,B,y⟩:=FV.1 c;obtain⟨j,a,rfl⟩:=DF.1 B;grind[Lp]
 grind[G6,List.filter_eq_self]
def aq(S:List Bf)(j:Nat):A2:=⟨(List.range 9).map λi=>(S.take j).filter (G6 i)⟩
theorem dV{w:A2}(a:Q6 w):w=⟨(List.range 9).map λi=>(Dv ltP w.Av.flatten).filter (G6 i)⟩:=by
 have e:=a.nine;cases w with
 |mk sp=>congr 1;apply Ii;simp[e];intro i c g;rw[Li,Kh,Ou Fq,Xk a c];exact(SF Fq (Pg Fq (a.srt i c))).symm
theorem ATo(e:Q6 w)(j:Nat):Q6 (aq (Dv ltP w.Av.flatten) j):=by
 have c:(aq (Dv ltP w.Av.flatten) j).Av.flatten.Sublist w.Av.flatten:=by
  conv=>rhs;rw[dV e]
  exact Zr λi _=>(IG _ _).filter _
 have E:∀i (h:i<(aq (Dv ltP w.Av.flatten) j).Av.length),(aq (Dv ltP w.Av.flatten) j).Av[i]=((Dv ltP w.Av.flatten).take j).filter (G6 i):=by intro i h;simp only[aq,Li,Kh]
 have q:∀i,i<9->(((Dv ltP w.Av.flatten).take j).filter (G6 i)).Pairwise λa b=>ltP a b=true:=by
  intro i hi;have g:i<w.Av.length:=by rw[e.nine];exact hi
  have y:((Dv ltP w.Av.flatten).filter (G6 i))=w.Av[i]:=by rw[Ou Fq,Xk e g];exact SF Fq (Pg Fq (e.srt i g))
  refine List.Pairwise.sublist ((IG _ _).filter _) ?_;rw[y];exact Pg Fq (e.srt i g)
 refine⟨by simp[aq],Ax c.length_le e.few,λp B=>e.pins p (c.subset B),e.ids.sublist c,?_,?_⟩;grind[ltP,Lp];grind[aq,List.pairwise_iff_getElem]
theorem AVv(y:Q6 w){j:Nat}(O:j<(Dv ltP w.Av.flatten).length):Xr (aq (Dv ltP w.Av.flatten) j) (Dv ltP w.Av.flatten)[j]=aq (Dv ltP w.Av.flatten) (j+1):=by
 have J:(Dv ltP w.Av.flatten)[j]∈w.Av.flatten:=SG.1 (Aw O);have ⟨k,Q,e⟩:=fT (O2 (y.pins _ J)).1.1;have X:(Dv ltP w.Av.flatten).Pairwise λa b=>ltP b a=false:=V1 Fq _;have L:(Dv ltP w.Av.flatten).take (j+1)=(Dv ltP w.Av.flatten).take j++[(Dv ltP w.Av.flatten)[j]]:=by rw[Cg,AU O];rfl
 generalize hS:Dv ltP w.Av.flatten=S at *;have g:∀(q:Bf->Bool),q S[j]=true->(∀b∈(S.take j).filter q,ltP b S[j]=true)->put ltP S[j] ((S.take j).filter q)=(S.take (j+1)).filter q:=by intro q hq c;rw[ADu c,L,Kf];simp[hq]
 have I:∀b∈(S.take j).filter (G6 k),ltP b S[j]=true:=by
  intro b Z;have G:k<w.Av.length:=by rw[y.nine];exact Q
  have B:S.filter (G6 k)=w.Av[k]:=by rw[<-hS,Ou Fq,Xk y G];exact SF Fq (Pg Fq (y.srt k G))
  have E:((S.take (j+1)).filter (G6 k)).Pairwise λa b=>ltP a b=true:=by refine List.Pairwise.sublist ((IG _ _).filter _) ?_;rw[B];exact Pg Fq (y.srt k G)
  rw[L,Kf]at E;have Y:([S[j]]:List Bf).filter (G6 k)=[S[j]]:=by simp[Lp.2 e]
  rw[Y]at E;exact(List.pairwise_append.1 E).2.2 b Z _ (EL.2 rfl)
 unfold Xr aq;rw[e,Ah];congr 1;apply Ii;simp;intro i h1 B;have hi:i<9:=by simpa using B
 rw[List.getElem_set];have hD:(((List.range 9).map λi=>(S.take j).filter (G6 i)).getD k [])=(S.take j).filter (G6 k):=by simp[List.getD,Q]
 split;rename_i H;subst H;rw[hD,g _ (Lp.2 e) I];simp;grind[Lp]
theorem qE(c:Q6 w):Ni (Dv ltP w.Av.flatten)=(w,true):=by
 have key:∀m j,j+m=(Dv ltP w.Av.flatten).length->Wz ((Dv ltP w.Av.flatten).drop j) (aq (Dv ltP w.Av.flatten) j)=(w,true):=by
  intro m;induction m with
  |zero=>grind[Wz,aq,dV]
  |succ m g=>
   intro j q;have a:j<(Dv ltP w.Av.flatten).length:=by omega
   have e:PF (aq (Dv ltP w.Av.flatten) j) (Dv ltP w.Av.flatten)[j]=(aq (Dv ltP w.Av.flatten) (j+1),true):=by unfold PF;rw[AVv c a,AY];exact⟨ET.2 (ATo c j),c.pins _ (SG.1 (Aw a)),ET.2 (ATo c (j+1))⟩
   rw[D4 a,Wz,e,AY rfl];exact g (j+1) (by omega)
 have:=key (Dv ltP w.Av.flatten).length 0 (by omega);rw[CX]at this;exact this
def Good(h:AF)(l:List Int):Prop:=C0 h=true/\Bt h/\EC h=l
def AAO:Ad:=⟨[],0,0,0,0,0,0,0,0⟩
def Jd:AF:=⟨AAO,0,0,[],[],[],[]⟩
def Red(l:List Int)(r:AF×Bool):Prop:=(r.2=true->Good r.1 l/\∀h,Good h l->h=r.1)/\(r.2=false->r.1=Jd/\∀h,¬Good h l)
theorem Red.one{r r':AF×Bool}(h:Red l r)(j:Red l r'):r=r':=by have ⟨g,b⟩:=r;have ⟨g',e⟩:=r';have ⟨q,a⟩:=h;have ⟨y,c⟩:=j;dsimp only at q a y c;cases b<;>cases e;rw[(a rfl).1,(c rfl).1];grind;grind;grind
theorem Red.bad(h:∀h,¬Good h l):Red l (Jd,false):=⟨λh=>(by cases h),λ_=>⟨rfl,h⟩⟩
def fr(c:Ak):Int:=c.AZ.Et
def up(x:Int):Int:=w64 (x+1)
theorem VG(h:AF):EC h=((Hu h.AQ).length:Int)::(Hu h.AQ++(h.Now::h.A3::(h.AG.length:Int)::(h.AG.flatMap Qv++(h.AI.map fr++((h.BM.length:Int)::(h.BM++h.BI.map up)))))):=by
 have a:∀l:List Ak,l.flatMap (λc=>[c.AZ.Et])=l.map fr:=λl=>by rw[J1];rfl
 have e:∀l:List Int,l.flatMap (λx=>[w64 (x+1)])=l.map up:=λl=>by rw[J1];rfl
 grind[EC]
def nO(r:Ad)(ps:List AR)(now:Int)(i:Nat)(free:Int):Ak:=
 ⟨⟨r.AZ.getD i 0,free,KI ps i,w64 (w64 (r.AZ.getD i 0-free)-KI ps i),Kn ps i⟩,EF r ps i now,(Ni (G7 ps i)).1⟩
theorem AVm(H:n<=4)(h:IS t n=true):t.length<=n:=by
 by_cases c:t.length<=n;exact c;exfalso;have a:∀k (B:k<t.length),0<=t[k]/\t[k]<n/\∀j (G:j<k),t[j]≠t[k]:=by intro k B;have y:=LM.1 h k B;unfold Tl at y;rw[Ch B,AD,B6,A6]at y;refine⟨y.1.1,by omega,λj G e=>?_⟩;have E:=y.2;simp only[BE,LB,beq_iff_eq]at E;refine E t[j] ?_ e;rw[DF];exact⟨j,by rw[Ag];omega,by rw[List.getElem_take]⟩
 have I:=a 0 (by omega);match n,H,c,a with
 |0,_,c,a=>have:=a 0 (by omega);omega|1,_,c,a=>have a0:=a 0 (by omega);have g:=a 1 (by omega);have:=g.2.2 0 (by omega);omega
 |2,_,c,a=>have a0:=a 0 (by omega);have g:=a 1 (by omega);have q:=a 2 (by omega);have:=g.2.2 0 (by omega);have:=q.2.2 0 (by omega);have:=q.2.2 1 (by omega);omega
 |3,_,c,a=>have a0:=a 0 (by omega);have g:=a 1 (by omega);have q:=a 2 (by omega);have a3:=a 3 (by omega);have:=g.2.2 0 (by omega);have:=q.2.2 0 (by omega);have:=q.2.2 1 (by omega);have:=a3.2.2 0 (by omega);have:=a3.2.2 1 (by omega);have:=a3.2.2 2 (by omega);omega
 |4,_,c,a=>have a0:=a 0 (by omega);have g:=a 1 (by omega);have q:=a 2 (by omega);have a3:=a 3 (by omega);have a4:=a 4 (by omega);grind
structure AcJ(h:AF):Prop where
 rules:EG h.AQ=true
 EI:1<=h.AQ.AZ.length/\h.AQ.AZ.length<=4
 AcK:1<=h.AQ.Da/\h.AQ.Da<=3
 few:h.AG.length<=40
 par:∀i (hi:i<h.AG.length),EE h.AQ h.AG[i] h.Now=true
 EH:h.AI.length=h.AQ.AZ.length
 cab:∀i (hi:i<h.AI.length),h.AI[i]=nO h.AQ h.AG h.Now i (fr h.AI[i])/\0<=fr h.AI[i]/\fr h.AI[i]<=h.AQ.AZ.getD i 0/\Ds h.AG i<=10
 todo:h.BM.length<=h.AQ.AZ.length
 P7:(h.BI.length:Int)=h.AQ.Da
 job:∀x∈h.BI,-1<=x/\x<4
theorem zN(a:Iu w=true):(Ni (Fk w)).1=w:=by unfold Fk;rw[AY a,qE (ET.1 a)]
theorem O3(O:C0 h=true):AcJ h:=by
 have ⟨q,h2,h3,E,G,H,I,J,L,g⟩:=JX O;have j:=CU q;have hcrew:1<=h.AQ.Da/\h.AQ.Da<=3:=j.2.2.2.2.2.2.2.2.2;refine⟨q,j.1,hcrew,E,?_,G,?_,?_,L,?_⟩;intro i hi;have:=LM.1 H i hi;unfold fF at this;rw[Ch hi,AD]at this;exact this.1;intro i hi;have y:i<h.AQ.AZ.length:=by omega
 have a:=LM.1 g i hi;unfold dh at a;rw[Ch hi,Ch y]at a;unfold MD Q7 Fi at a;simp only[AD,beq_iff_eq,B6,BE,decide_eq_false_iff_not,KZ vk,KZ vn]at a;have ⟨S,⟨⟨⟨l1,l2,l3,l4,l5,l6⟩,k3,X⟩,Y,Z,k7,k8⟩,k9⟩:=a;have hD:h.AQ.AZ.getD i 0=h.AQ.AZ[i]:=by simp[List.getD,y]
 have hroom:=j.2.2.1;have B:=zN X;rw[Z]at B;unfold nO fr;rw[hD,<-Y,<-k7,<-k8,<-S,B];generalize h.AI[i]=c at *;have ⟨⟨t,f,e,s,td⟩,row,wh⟩:=c;dsimp only at *;have e1:w64 (f+e)=f+e:=A6 (by omega) (by omega);have e2:w64 (f+e+s)=f+e+s:=A6 (by omega) (by omega);grind[A6];have:=AVm (by omega) I;omega;intro x Q;have:=B2.1 J x Q;rw[B6,A6]at this;omega
def Mb(l:List Int):Ad×Bool:=
 match l with
 |a::b::c::d::e::f::g::i::x::s=>if EG ⟨x::s,a,b,c,d,e,f,g,i⟩=true then (⟨x::s,a,b,c,d,e,f,g,i⟩,true) else (AAO,false)|_=>(AAO,false)
theorem oJ(h:(Mb l).2=true):EG (Mb l).1=true/\Hu (Mb l).1=l:=by unfold Mb at *;split at h;split at h;rename_i a;rw[AY a];exact⟨a,rfl⟩;cases h;cases h
theorem O4{r:Ad}(j:EG r=true):Mb (Hu r)=(r,true):=by
 have q:=(CU j).1.1;have ⟨s,a,b,c,d,e,f,g,i⟩:=r;match s,q with
 |x::s,_=>show (if EG _=true then _ else _)=_;rw[AY j]
theorem zr{l:List Int}(hl:l.length<=1048576):AIb l=some (Mb l):=by
 unfold AIb;match l,hl with
 | [],_=>rfl| [_],_=>rfl| [_,_],_=>rfl| [_,_,_],_=>rfl| [_,_,_,_],_=>rfl| [_,_,_,_,_],_=>rfl| [_,_,_,_,_,_],_=>rfl| [_,_,_,_,_,_,_],_=>rfl| [_,_,_,_,_,_,_,_],_=>rfl|a::b::c::d::e::f::g::i::x::s,hl=>
  simp only[AK]at hl;have Q:(x::s).length<2 ^ 62:=by simp only[AK];omega
  rw[BV,Aa (by simp only[AK];omega)];have j:at? (a::b::c::d::e::f::g::i::x::s) 0=some a:=rfl;have q:at? (a::b::c::d::e::f::g::i::x::s) 1=some b:=rfl;have y:at? (a::b::c::d::e::f::g::i::x::s) 2=some c:=rfl;have B:at? (a::b::c::d::e::f::g::i::x::s) 3=some d:=rfl;have E:at? (a::b::c::d::e::f::g::i::x::s) 4=some e:=rfl;have G:at? (a::b::c::d::e::f::g::i::x::s) 5=some f:=rfl;have H:at? (a::b::c::d::e::f::g::i::x::s) 6=some g:=rfl;have I:at? (a::b::c::d::e::f::g::i::x::s) 7=some i:=rfl;have J:List.drop (Int.toNat 8) (a::b::c::d::e::f::g::i::x::s)=x::s:=rfl;have L:(0:Int)<=8/\(8:Int)<=((a::b::c::d::e::f::g::i::x::s).length:Int):=by simp only[AK];omega
  have hlim:=Gk;have O:0+(x::s).length<=lim:=by simp only[AK];omega
  simp only[j,q,y,B,E,G,H,I,J,AB,D2 L,D2 O,Cy,Kx,Lc,Ky,Kz,KG,K0,K1,Az,JM (r:=⟨x::s,a,b,c,d,e,f,g,i⟩) Q,BW];unfold Mb;dsimp only;cases EG ⟨x::s,a,b,c,d,e,f,g,i⟩<;>rfl
theorem yT{l:List Int}(hl:l.length<=1048576):AIo l=some (Mb l):=by
 unfold AIo;match l,hl with
 | [],_=>rfl| [_],_=>rfl| [_,_],_=>rfl| [_,_,_],_=>rfl| [_,_,_,_],_=>rfl| [_,_,_,_,_],_=>rfl| [_,_,_,_,_,_],_=>rfl| [_,_,_,_,_,_,_],_=>rfl| [_,_,_,_,_,_,_,_],_=>rfl|a::b::c::d::e::f::g::i::x::s,hl=>
  simp only[AK]at hl;have Q:(x::s).length<2 ^ 62:=by simp only[AK];omega
  rw[BV,Aa (by simp only[AK];omega)];have j:at? (a::b::c::d::e::f::g::i::x::s) 0=some a:=rfl;have q:at? (a::b::c::d::e::f::g::i::x::s) 1=some b:=rfl;have y:at? (a::b::c::d::e::f::g::i::x::s) 2=some c:=rfl;have B:at? (a::b::c::d::e::f::g::i::x::s) 3=some d:=rfl;have E:at? (a::b::c::d::e::f::g::i::x::s) 4=some e:=rfl;have G:at? (a::b::c::d::e::f::g::i::x::s) 5=some f:=rfl;have H:at? (a::b::c::d::e::f::g::i::x::s) 6=some g:=rfl;have I:at? (a::b::c::d::e::f::g::i::x::s) 7=some i:=rfl;have J:List.drop (Int.toNat 8) (a::b::c::d::e::f::g::i::x::s)=x::s:=rfl;have L:(0:Int)<=8/\(8:Int)<=((a::b::c::d::e::f::g::i::x::s).length:Int):=by simp only[AK];omega
  have O:MI (x::s)=some (x::s):=YJ (by simp only[AK];omega);simp only[j,q,y,B,E,G,H,I,J,AB,D2 L,O,Cy,Kx,Lc,Ky,Kz,KG,K0,K1,JD (r:=⟨x::s,a,b,c,d,e,f,g,i⟩) Q,BW];unfold Mb;dsimp only;cases EG ⟨x::s,a,b,c,d,e,f,g,i⟩<;>rfl
theorem AWk(x y:Int):(x==y)=true↔x=y:=beq_iff_eq
theorem KP{a b:List Int}(hl:a.length<2 ^ 62):FH a b=some (F5 (·==·) a b):=by grind[FH,oO,Rf,CB,BT,AB,EZ,CI,AW]
def rd(l:List Int)(k:Nat)(b:Bool):Dy:=⟨l,(k:Int),b⟩
theorem yh{b:Bool}(hl:l.length<=1048576)(q:k<=l.length) :
 ∃n a c,dw (rd l k b)=some (n,rd l a c)/\a<=l.length/\∀x rest,l.drop k=x::rest->n=x/\l.drop a=rest/\c=b:=by
 unfold dw;rw[BV];rcases AV k l.length with h|h;rw[Aa (show ¬((rd l k b).at_>=((rd l k b).VB.length:Int)) from by show ¬((k:Int)>=(l.length:Int));omega)];have g:w64 ((k:Int)+1)=((k+1:Nat):Int):=Bh h (by omega);have j:w64 (((k+1:Nat):Int)-1)=(k:Int):=by rw[A6];omega
 show ∃n a c,(bd (at? l (w64 (w64 ((k:Int)+1)-1))) λy=>some (y,Dy.mk l (w64 ((k:Int)+1)) b))=_/\_;rw[g,j,BT h,AB];refine⟨_,k+1,b,rfl,by omega,λx rest e=>?_⟩;grind[D4];rw[AY (show (rd l k b).at_>=((rd l k b).VB.length:Int) from by show (k:Int)>=(l.length:Int);omega)];refine⟨0,k,true,rfl,q,λx rest e=>?_⟩;rw[A9 h]at e;cases e
theorem gC{l:List Int}{k:Nat}{b:Bool}(hl:l.length<=1048576)(B:k<=l.length){m:Int}(E:0<=m) :
 ∃n a c,dx (rd l k b) m=some (n,rd l a c)/\a<=l.length/\0<=n/\n<=m/\∀x rest,l.drop k=x::rest->0<=x->x<=m->n=x/\l.drop a=rest/\c=b:=by
 have ⟨n,a,c,g,j,y⟩:=yh (b:=b) hl B;unfold dx;rw[g,AB,Db,AB,BW];cases e:inB n 0 m with
 |true=>rw[B6]at e;exact⟨n,a,c,rfl,j,e.1,e.2,λx rest q _ _=>y x rest q⟩
 |false=>refine⟨0,a,true,rfl,j,by omega,E,λx rest q G g=>?_⟩;grind[inB]
theorem ym{b:Bool}(hl:l.length<=1048576)(Z:k<=l.length)(hn:n<=1048576) :
 ∃xs a e,dy (rd l k b) (n:Int)=some (xs,rd l a e)/\a<=l.length/\xs.length=n/\∀ys rest,l.drop k=ys++rest->ys.length=n->xs=ys/\l.drop a=rest/\e=b:=by
 unfold dy;have key:=H4 (F:=ju (n:Int)) (n:=n) (λi (v:List Int×Nat×Bool)=>(v.1,(i:Int),rd l v.2.1 v.2.2))
  (λi v=>v.1.length=i/\v.2.1<=l.length/\∀ys rest,l.drop k=ys++rest->ys.length=n->v.1=ys.take i/\l.drop v.2.1=ys.drop i++rest/\v.2.2=b)
  (λr:List Int×Dy=>∃a e,r.2=rd l a e/\a<=l.length/\r.1.length=n/\∀ys rest,l.drop k=ys++rest->ys.length=n->r.1=ys/\l.drop a=rest/\e=b) (by omega) ?_ (v:=([],k,b)) ⟨rfl,Z,λys rest h _=>⟨by simp,by simpa using h,rfl⟩⟩
 have ⟨r,hr,a,e,y,S,X,Y⟩:=key;exact⟨r.1,a,e,by rw[<-y];exact hr,S,X,Y⟩;rintro L i ⟨xs,q,c⟩ ⟨B,E,G⟩ hi H;dsimp only at B E G H ⊢;unfold ju;dsimp only;rcases AV i n with h|h;have ⟨x,q',I,J,O,Q⟩:=yh (b:=c) hl E;rw[bnT h,J,AB,DX,Bh h];refine H (xs++[x],q',I) ⟨by simp[B],O,λys rest hy j=>?_⟩ h;have ⟨p1,p2,p3⟩:=G ys rest hy j;have g:i<ys.length:=by omega
 rw[D4 g]at p2;have ⟨u1,u2,u3⟩:=Q _ _ p2;refine⟨?_,u2,u3.trans p3⟩;rw[p1,u1,Cg,AU g];rfl;obtain rfl:i=n:=by omega
 rw[bnJ];unfold ABe;grind
theorem ten{o:Type}{l:List o}(h:l.length=10):∃a b c d e f g i j k,l=[a,b,c,d,e,f,g,i,j,k]:=by
 match l,h with
 | [a,b,c,d,e,f,g,i,j,k],_=>exact⟨a,b,c,d,e,f,g,i,j,k,rfl⟩
theorem AW9{b:Bool}(hl:l.length<=1048576)(hk:k<=l.length) :
 ∃p E G,AIc (rd l k b)=some (p,rd l E G)/\E<=l.length/\∀(q:AR) rest,l.drop k=Qv q++rest -> -1<=q.Bs->q.Bs<=1048576->p=q/\l.drop E=rest/\G=b:=by
 have ⟨xs,E,G,h1,h2,h3,h4⟩:=ym (b:=b) hl hk (n:=10) (by omega);obtain⟨a0,c,a,a3,a4,e,g,j,y,B,rfl⟩:=ten h3;unfold AIc be;rw[show (10:Int)=((10:Nat):Int) from rfl,h1,AB];have H:at? [a0,c,a,a3,a4,e,g,j,y,B] 0=some a0:=rfl;have I:at? [a0,c,a,a3,a4,e,g,j,y,B] 1=some c:=rfl;have J:at? [a0,c,a,a3,a4,e,g,j,y,B] 2=some a:=rfl;have L:at? [a0,c,a,a3,a4,e,g,j,y,B] 3=some a3:=rfl;have O:at? [a0,c,a,a3,a4,e,g,j,y,B] 4=some a4:=rfl;have Q:at? [a0,c,a,a3,a4,e,g,j,y,B] 5=some e:=rfl;have S:at? [a0,c,a,a3,a4,e,g,j,y,B] 6=some g:=rfl;have X:at? [a0,c,a,a3,a4,e,g,j,y,B] 7=some j:=rfl;have Y:at? [a0,c,a,a3,a4,e,g,j,y,B] 8=some y:=rfl;have Z:at? [a0,c,a,a3,a4,e,g,j,y,B] 9=some B:=rfl;simp only[H,I,J,L,O,Q,S,X,Y,Z,AB,N6];refine⟨_,E,G,rfl,h2,λq rest hq hf hf2=>?_⟩;have ⟨p1,p2,p3⟩:=h4 (Qv q) rest hq rfl;refine⟨?_,p2,p3⟩;unfold Qv at p1;simp only[B3,and_true]at p1;have ⟨q0,q1,q2,q3,q4,q5,q6,q7,q8,q9⟩:=p1;rw[A6]at q2;have hfrom:w64 ((if a>0 then a else 0)-1)=q.Bs:=by grind[A6]
 rw[hfrom,q0,q1,q3,q4,q5,q6,q7,q8,q9]
def tl4(g:AF):List Int:=(g.BM.length:Int)::(g.BM++g.BI.map up)
def tl3(g:AF)(i:Nat):List Int:=(g.AI.drop i).map fr++tl4 g
def tl2(g:AF)(i:Nat):List Int:=(g.AG.drop i).flatMap Qv++tl3 g 0
theorem sg(h:Good g l):l=((Hu g.AQ).length:Int)::(Hu g.AQ++(g.Now::g.A3::(g.AG.length:Int)::tl2 g 0)):=by rw[<-h.2.2,VG];simp only[tl2,tl3,tl4,CX]
def Hd(g:AF)(R:Ad)(now turn:Int):Prop:=g.AQ=R/\g.Now=now/\g.A3=turn
theorem sk{R:Ad}(hR:h.AQ=R):{h with AQ:=Ad.mk R.AZ R.Cj R.Room R.BL R.Ca R.CD R.Rest R.Cr R.Da}=h:=by subst hR;rfl
theorem aM{a b:List Int}:F5 (·==·) a b=true↔a=b:=KZ AWk
def jb(j:Int):Int:=w64 ((if j > -5 then j else -5)-1)
theorem AaZ(h:-1<=x)(a:x<4):jb (up x)=x:=by unfold jb up;grind[A6]
section spec
variable{l:List Int}(hl:l.length<=1048576){R:Ad×Bool}{now turn:Int}
include hl
theorem Aa7{x:List Int×Dy}{h:AF}(hR:h.AQ=R.1)(e:Bt h)(c:∀g,Good g l->g=h/\x.2.AAe=false) :
 ∃r,Ub l R x ((),R.1.Cj,R.1.Room,R.1.BL,R.1.Ca,R.1.CD,R.1.Rest,R.1.Cr,R.1.Da,h.Now,h.A3,h.AG,h.AI,h.BM,h.BI)=some r/\Red l r:=by
 unfold Ub Pp;dsimp only;rw[sk hR];cases q:x.2.AAe with
 |true=>rw[CB,AW,CB];exact⟨_,rfl,Red.bad λg a=>by have:=(c g a).2;rw[q]at this;cases this⟩
 |false=>
  rw[CI,GV e,AB,BW];cases hB:C0 h with
  |false=>rw[brJ,CB];exact⟨_,rfl,Red.bad λg a=>by rw[(c g a).1]at a;rw[a.1]at hB;cases hB⟩
  |true=>
   have B:=V7 e hB;rw[CB,WJ e hB,AB,KP (by omega),AB,AW,BW];cases j:F5 (·==·) (EC h) l with
   |true=>rw[CB];exact⟨_,rfl,λ_=>⟨⟨hB,e,aM.1 j⟩,λg a=>(c g a).1⟩,λy=>by cases y⟩
   |false=>rw[CI];refine⟨_,rfl,Red.bad λg a=>?_⟩;rw[(c g a).1]at a;rw[aM.2 a.2.2]at j;cases j
theorem AbA{x:List Int×Dy}{ps:List AR}{cs:List Ak}{td:List Int}(g:x.1.length<=1048576) :
 BK (kP l R x) big (0,(),R.1.Cj,R.1.Room,R.1.BL,R.1.Ca,R.1.CD,R.1.Rest,R.1.Cr,R.1.Da,now,turn,ps,cs,td,[]) =
  Ub l R x ((),R.1.Cj,R.1.Room,R.1.BL,R.1.Ca,R.1.CD,R.1.Rest,R.1.Cr,R.1.Da,now,turn,ps,cs,td,x.1.map jb):=by
 refine Dl (n:=x.1.length) (λi (v:List Int)=>((i:Int),(),R.1.Cj,R.1.Room,R.1.BL,R.1.Ca,R.1.CD,R.1.Rest,R.1.Cr,R.1.Da,now,turn,ps,cs,td,v)) (λi v=>v=(x.1.take i).map jb)
  (λ_ _=>Ub l R x ((),R.1.Cj,R.1.Room,R.1.BL,R.1.Ca,R.1.CD,R.1.Rest,R.1.Cr,R.1.Da,now,turn,ps,cs,td,x.1.map jb)) (by omega) ?_ (v:=[]) (by simp)
 intro L i v a hi e;unfold kP be;rcases AV i x.1.length with h|h;have hlim:=Gk;have c:v.length<=1048576:=by rw[a,Af,Ag];omega
 simp only[S6 h,CB,BT h,AB,N6,Bh h (by omega:x.1.length<2 ^ 63)];rw[DX];refine e _ ?_ h;rw[a,Cg,AU h,List.map_append];rfl;grind[CI,AW]
theorem Aa6(hr:EG R.1=true){ps:List AR}{cs:List Ak}{k:Nat}{b:Bool}(hk:k<=l.length)(B:ps.length<=1048576)(q:cs.length<=1048576)(j:∀c∈cs,E3 c)
 (ha:∀g,Good g l->Hd g R.1 now turn/\g.AG=ps/\g.AI=cs/\l.drop k=tl4 g/\b=false) :
 ∃r,kN l R ((),R.1.Cj,R.1.Room,R.1.BL,R.1.Ca,R.1.CD,R.1.Rest,R.1.Cr,R.1.Da,now,turn,ps,cs,[],[],rd l k b)=some r/\Red l r:=by
 have E:=CU hr;have hcrew:=E.2.2.2.2.2.2.2.2.2;unfold kN;dsimp only;have ⟨nt,k1,J,O,Q,S,e4,X⟩:=gC (b:=b) hl hk (m:=(R.1.AZ.length:Int)) (by omega);obtain⟨n,rfl⟩:=AX S;have ⟨td,k2,G,Y,Z,f3,f4⟩:=ym (b:=J) hl Q (n:=n) (by omega);have ⟨c,H⟩:=AX (show 0<=R.1.Da by omega);have ⟨js,k3,L,g1,g2,g3,g4⟩:=ym (b:=G) hl Z (n:=c) (by omega);rw[O,AB];rw[Y,AB];have e:dy (rd l k2 G) R.1.Da=some (js,rd l k3 L):=by rw[H];exact g1
 rw[e,AB];rw[AbA hl (by dsimp only;omega)];refine Aa7 hl (h:=⟨R.1,now,turn,ps,cs,td,js.map jb⟩) rfl ⟨by dsimp only;omega,B,q,j,by dsimp only;omega,by dsimp only;rw[Af];omega⟩ ?_;intro g I;have ⟨⟨q1,q2,q3⟩,q4,q5,q6,q7⟩:=ha g I;have a:=O3 I.1;have ⟨u1,u2,u3⟩:=X _ _ q6 (by omega) (by have:=a.todo;rw[q1]at this;omega);have ⟨v1,v2,v3⟩:=f4 _ _ u2 (by omega);have ⟨w1,w2,w3⟩:=g4 (g.BI.map up) [] (by rw[v2,CO]) (by rw[Af];have:=a.P7;rw[q1,H]at this;omega);have hj:js.map jb=g.BI:=by
  rw[w1,DU]
  conv=>rhs;rw[<-Pb g.BI]
  apply J0;intro y hy;have:=a.job y hy;exact AaZ this.1 this.2
 refine⟨?_,by dsimp only[rd];rw[w3,v3,u3,q7]⟩;rw[hj,v1];cases g;grind
theorem Aa9(X:EG R.1=true){ps:List AR}{k:Nat}{b:Bool}(hk:k<=l.length)(hps:ps.length<=40)
 (ha:∀g,Good g l->Hd g R.1 now turn/\g.AG=ps/\l.drop k=tl3 g 0/\b=false) :
 ∃r,kM l R ((),R.1.Cj,R.1.Room,R.1.BL,R.1.Ca,R.1.CD,R.1.Rest,R.1.Cr,R.1.Da,now,turn,ps,[],[],[],rd l k b)=some r/\Red l r:=by
 have O:=CU X;unfold kM;refine H4 (n:=R.1.AZ.length) (λi (v:List Ak×Nat×Bool)=>((i:Int),(),R.1.Cj,R.1.Room,R.1.BL,R.1.Ca,R.1.CD,R.1.Rest,R.1.Cr,R.1.Da,now,turn,ps,v.1,[],[],rd l v.2.1 v.2.2))
  (λi v=>v.1.length=i/\(∀c∈v.1,E3 c)/\v.2.1<=l.length/\∀g,Good g l->Hd g R.1 now turn/\g.AG=ps/\v.1=g.AI.take i/\l.drop v.2.1=tl3 g i/\v.2.2=false)
  (Red l) (by omega) ?_ (v:=([],k,b)) ⟨rfl,by simp,hk,λg j=>by have ⟨h1,h2,h3,h4⟩:=ha g j;exact⟨h1,h2,by simp,h3,h4⟩⟩
 rintro L i ⟨cs,q,c⟩ ⟨S,gf,H,I⟩ hi Y;dsimp only at S gf H I Y ⊢;unfold AB0 be;dsimp only;rcases AV i R.1.AZ.length with h|h;have hseat:=O.2.2.2.2.2.1 _ (Aw h);have hD:R.1.AZ.getD i 0=R.1.AZ[i]:=by simp[List.getD,h]
 have ⟨a,q',c',e1,e2,e3,e4,e5⟩:=gC (b:=c) hl H (m:=R.1.AZ[i]) (by omega);have J:(G7 ps (i:Int)).length<=1048576:=by unfold G7;rw[Ir];have:=B8 (OA (i:Int)) ps;omega
 rw[bnT h,BT h];simp only[AB,e1,VU (show ps.length<=1048576 by omega),zt J,Q0 (show ps.length<2 ^ 58 by omega),Q2 (show ps.length<2 ^ 58 by omega),Cy,Kx,Lc,Ky,Kz,KG,K0,K1,O7 (r:=R.1) (show R.1.AZ.length<2 ^ 62 by omega) (show ps.length<=1048576 by omega)];rw[DX,Bh h];have B:Ak.mk (BO.mk R.1.AZ[i] a (KI ps i) (w64 (w64 (R.1.AZ[i]-a)-KI ps i)) (Kn ps i)) (EF R.1 ps i now) (Ni (G7 ps i)).1=nO R.1 ps now i a:=by unfold nO;rw[hD]
 rw[B];refine Y (cs++[nO R.1 ps now i a],q',c') ⟨by simp[S],?_,e2,λg j=>?_⟩ h;intro x E;rcases Br.1 E with E|E;exact gf x E;rw[EL.1 E];refine⟨?_,fU _⟩;unfold nO EF;rw[Ir];have:=B8 (Mn R.1 (i:Int) now) ps;omega;have ⟨⟨p1,p2,p3⟩,p4,p5,G,Q⟩:=I g j;have e:=O3 j.1;have y:i<g.AI.length:=by rw[e.EH,p1];exact h
 have ⟨w1,w2,Z,w4⟩:=e.cab i y;unfold tl3 at G;rw[D4 y,AJ]at G;have ⟨u1,u2,u3⟩:=e5 _ _ G w2 (by rw[p1,hD]at Z;exact Z);refine⟨⟨p1,p2,p3⟩,p4,?_,u2,u3.trans Q⟩;rw[Cg,AU y,p5,u1];rw[p1,p4,p2]at w1
 conv=>rhs;rw[w1]
 rfl;obtain rfl:i=R.1.AZ.length:=by omega
 rw[bnJ];refine Aa6 hl X H (by omega) (by omega) gf λg j=>?_;have ⟨p1,p4,p5,G,Q⟩:=I g j;have e:=O3 j.1;have hn:g.AI.length=R.1.AZ.length:=by rw[e.EH,p1.1]
 refine⟨p1,p4,?_,?_,Q⟩;rw[p5,BH (by omega)];rw[G];unfold tl3;rw[A9 (by omega)];rfl
theorem Aa8(Y:EG R.1=true){n:Int}{x:Int×Dy}(hx:x.1=n)(O:0<=n)(hn:n<=40){k:Nat}{b:Bool}(hk:k<=l.length)
 (ha:∀g,Good g l->Hd g R.1 now turn/\(g.AG.length:Int)=n/\l.drop k=tl2 g 0/\b=false) :
 ∃r,BK (kO l R x) big (0,(),R.1.Cj,R.1.Room,R.1.BL,R.1.Ca,R.1.CD,R.1.Rest,R.1.Cr,R.1.Da,now,turn,[],[],[],[],rd l k b)=some r/\Red l r:=by
 have hrl:=CU Y;obtain⟨m,rfl⟩:=AX O;refine H4 (n:=m) (λi (v:List AR×Nat×Bool)=>((i:Int),(),R.1.Cj,R.1.Room,R.1.BL,R.1.Ca,R.1.CD,R.1.Rest,R.1.Cr,R.1.Da,now,turn,v.1,[],[],[],rd l v.2.1 v.2.2))
  (λi v=>v.1.length=i/\v.2.1<=l.length/\∀g,Good g l->Hd g R.1 now turn/\g.AG.length=m/\v.1=g.AG.take i/\l.drop v.2.1=tl2 g i/\v.2.2=false)
  (Red l) (by omega) ?_ (v:=([],k,b)) ⟨rfl,hk,λg a=>by have ⟨h1,h2,h3,h4⟩:=ha g a;exact⟨h1,by omega,by simp,h3,h4⟩⟩
 rintro L i ⟨ps,q,c⟩ ⟨X,J,B⟩ hi Z;dsimp only at X J B Z ⊢;unfold kO;dsimp only;rw[hx];rcases AV i m with h|h;have ⟨p,q',S,e1,e2,e3⟩:=AW9 (b:=c) hl J;rw[bnT h,e1,AB];rw[O6 (by omega),AB,BW];have E:∀g,Good g l->p=g.AG.getD i ⟨0,0,0,0,0,0,0,0,0,0⟩/\i<g.AG.length/\l.drop q'=tl2 g (i+1)/\S=false:=by
  intro g a;have ⟨p1,p2,p3,p4,p5⟩:=B g a;have j:i<g.AG.length:=by omega
  have G:=Fc ((O3 a.1).par i j);have hs:=(CU G.1).1;unfold tl2 at p4;rw[D4 j,CV,BF]at p4;have ⟨H,y,I⟩:=e3 _ _ p4 G.2.2.2.2.1.1 (by omega);refine⟨?_,j,y,I.trans p5⟩;rw[H];simp[List.getD,j]
 cases Q:EE R.1 p now with
 |true=>rw[CB,DX,Bh h];refine Z (ps++[p],q',S) ⟨by simp[X],e2,λg a=>?_⟩ h;have ⟨p1,p2,p3,p4,p5⟩:=B g a;have ⟨H,y,I,u4⟩:=E g a;refine⟨p1,p2,?_,I,u4⟩;rw[Cg,AU y,p3,H];simp[List.getD,y]
 |false=>
  rw[CI];refine⟨_,rfl,Red.bad λg a=>?_⟩;have ⟨p1,p2,p3,p4,p5⟩:=B g a;have ⟨H,y,I,u4⟩:=E g a;have:=(O3 a.1).par i y;rw[H]at Q;have e:g.AG.getD i ⟨0,0,0,0,0,0,0,0,0,0⟩=g.AG[i]:=by simp[List.getD,y]
  rw[e,<-p1.1,<-p1.2.1,this]at Q;cases Q
 obtain rfl:i=m:=by omega
 rw[bnJ];refine Aa9 hl Y J (by omega) λg a=>?_;have ⟨p1,p2,p3,p4,p5⟩:=B g a;refine⟨p1,?_,?_,p5⟩;rw[p3,BH (by omega)];rw[p4];unfold tl2;rw[A9 (by omega)];rfl
end spec
theorem zm{l:List Int}(hl:l.length<=1048576):∃r,ABz l=some r/\Red l r:=by
 unfold ABz;have ⟨sz,k1,y,J,L,a3,a4,O⟩:=gC (l:=l) (k:=0) (b:=false) hl (ER _) (m:=12) (by omega);obtain⟨s,rfl⟩:=AX a3;obtain⟨xs,k2,B,X,Y,c3,c4⟩:=ym (b:=y) hl L (n:=s) (by omega);have j:dx (Dy.mk l 0 false) 12=some ((s:Int),rd l k1 y):=J;rw[j,AB];rw[X,AB];dsimp only;rw[zr (by omega),AB,BW];have e:∀g,Good g l->xs=Hu g.AQ/\l.drop k2=g.Now::g.A3::(g.AG.length:Int)::tl2 g 0/\B=false:=by intro g c;have hn:=sg c;have E:=SZ g.AQ;have a:=O3 c.1;obtain⟨G,H,I⟩:=O _ _ (by rw[CX];exact hn) (by omega) (by have:=a.EI;omega);grind
 cases hR:(Mb xs).2 with
 |false=>rw[CI];refine⟨_,rfl,Red.bad λg c=>?_⟩;rw[(e g c).1,O4 (O3 c.1).rules]at hR;cases hR
 |true=>rw[CB];have q:=(oJ hR).1;have ⟨n1,k3,Q,Z,d2,d3⟩:=yh (b:=B) hl Y;have ⟨n2,k4,S,f1,f2,f3⟩:=yh (b:=Q) hl d2;have ⟨n3,k5,b5,g1,g2,g3,g4,g5⟩:=gC (b:=S) hl f2 (m:=40) (by omega);simp only[Z,AB,Cy,Kx,Lc,Ky,Kz,KG,K0,K1,AAK,f1,g1];refine Aa8 hl q (now:=n1) (turn:=n2) rfl g3 g4 g2 λg c=>?_;have ⟨q1,q2,q3⟩:=e g c;have a:=O3 c.1;have ⟨G,H,I⟩:=d3 _ _ q2;have ⟨v1,v2,v3⟩:=f3 _ _ H;have ⟨w1,w2,w3⟩:=g5 _ _ v2 (by omega) (by have:=a.few;omega);refine⟨⟨?_,G.symm,v1.symm⟩,w1.symm,w2,by rw[w3,v3,I,q3]⟩;rw[q1,O4 a.rules]
theorem m7(a:r.AZ.length<2 ^ 62){l:List AR}(hl:l.length<=40)(c now:Int):∃q,dm r l c now=some q/\q.length<=40/\(Ds l c<=19->q=EF r l c now):=by by_cases e:Ds l c<=19;refine⟨_,TJ a (by omega) e now,?_,λ_=>rfl⟩;unfold EF;rw[Ir];have:=B8 (Mn r c now) l;omega;have hlim:=Gk;unfold dm;rw[collect (l:=l) (Mn r c now) UG (by omega) ?_ ?_];unfold UG;have:=B8 (Mn r c now) l;have ⟨x,E,g⟩:=o8 (l:=l.filterMap (Mn r c now)) (by omega);grind[AB];intro L i h v B;unfold UH YM YN Mn;dsimp only;rw[bnT h,BT h,AB,Ox a,AB,AW,DX,AW,AW];cases j:(Fh r l[i] now).2<;>cases y:l[i].Ab==c<;>simp;intro L v;unfold UH;dsimp only;rw[bnJ]
theorem pj{l:List AR}(hl:l.length<=40)(c:Int):∃q,iv l c=some q/\q.length<=40/\(Ds l c<=19->q=G7 l c):=by by_cases a:Ds l c<=19;refine⟨_,eW (by omega) a,?_,λ_=>rfl⟩;unfold G7;rw[Ir];have:=B8 (OA c) l;omega;have hlim:=Gk;unfold iv;rw[collect (l:=l) (OA c) UL (by omega) ?_ ?_];unfold UL;have:=B8 (OA c) l;have ⟨x,B,e⟩:=z7 (l:=l.filterMap (OA c)) (by omega);grind[AB];intro L i h v y;unfold UM YS KW OA;dsimp only;rw[bnT h,BT h,AB,AW,DX,AW,AW];cases g:l[i].State==2<;>cases j:l[i].Ab==c<;>simp;intro L v;unfold UM;dsimp only;rw[bnJ]
theorem VZ{r:List Int}(a:r.length<=1048576):∃xs r',Mu (n:Int) r=some (xs,r')/\r'.length<=1048576/\(n<=10->xs.length=n)/\(n<=r.length->xs.length=n)/\xs.length<=n /\
 ∀ys zs,r=ys++zs->ys.length=n->xs=ys/\r'=zs:=by grind[Mu,kE,M2,BV,AW,lim,D2]
theorem AHD{o:Type}{l:List o}(h:l.length=1):∃a,l=[a]:=by
 match l,h with
 | [a],_=>exact⟨a,rfl⟩
theorem three{o:Type}{l:List o}(h:l.length=3):∃a b c,l=[a,b,c]:=by
 match l,h with
 | [a,b,c],_=>exact⟨a,b,c,rfl⟩
section impl
variable{l:List Int}(hl:l.length<=1048576){R:Ad×Bool}{now turn:Int}
include hl
theorem AaT{h:AF}(hR:h.AQ=R.1)(c:Bt h)(e:∀g,Good g l->g=h) :
 ∃r,US l R ((),R.1.Cj,R.1.Room,R.1.BL,R.1.Ca,R.1.CD,R.1.Rest,R.1.Cr,R.1.Da,h.Now,h.A3,h.AG,h.AI,h.BM,h.BI)=some r/\Red l r:=by
 unfold US Pp;dsimp only;rw[sk hR,GR c,AB,BW];cases hB:C0 h with
 |false=>rw[AW,CB];exact⟨_,rfl,Red.bad λg a=>by rw[e g a]at a;rw[a.1]at hB;cases hB⟩
 |true=>
  have y:=V7 c hB;rw[AL1 c hB,AB,KP (by omega),AB,AW,BW];cases j:F5 (·==·) (EC h) l with
  |true=>exact⟨_,rfl,λ_=>⟨⟨hB,c,aM.1 j⟩,λg a=>e g a⟩,λq=>by cases q⟩
  |false=>refine⟨_,rfl,Red.bad λg a=>?_⟩;rw[e g a]at a;rw[aM.2 a.2.2]at j;cases j
theorem AaW{x:List Int×List Int}{ps:List AR}{cs:List Ak}{td:List Int}(c:x.1.length<=1048576) :
 BK (jt l R x) big (0,(),R.1.Cj,R.1.Room,R.1.BL,R.1.Ca,R.1.CD,R.1.Rest,R.1.Cr,R.1.Da,now,turn,ps,cs,td,[]) =
  US l R ((),R.1.Cj,R.1.Room,R.1.BL,R.1.Ca,R.1.CD,R.1.Rest,R.1.Cr,R.1.Da,now,turn,ps,cs,td,x.1.map (λj=>w64 (j-1))):=by
 refine Dl (n:=x.1.length) (λi (v:List Int)=>((i:Int),(),R.1.Cj,R.1.Room,R.1.BL,R.1.Ca,R.1.CD,R.1.Rest,R.1.Cr,R.1.Da,now,turn,ps,cs,td,v)) (λi v=>v=(x.1.take i).map (λj=>w64 (j-1)))
  (λ_ _=>US l R ((),R.1.Cj,R.1.Room,R.1.BL,R.1.Ca,R.1.CD,R.1.Rest,R.1.Cr,R.1.Da,now,turn,ps,cs,td,x.1.map (λj=>w64 (j-1)))) (by omega) ?_ (v:=[]) (by simp)
 intro L i v a hi e;unfold jt;rcases AV i x.1.length with h|h;grind[lim,CB,BT,AB,Bh,D2,List.take_add_one];grind[CI,AW]
theorem AaS(hr:EG R.1=true){ps:List AR}{cs:List Ak}{rest:List Int}(hk:rest.length<=1048576)(L:ps.length<=1048576)(J:cs.length<=1048576)(I:∀c∈cs,E3 c)
 (Q:∀g,Good g l->Hd g R.1 now turn/\g.AG=ps/\g.AI=cs/\rest=tl4 g) :
 ∃r,jq l R (rest,(),R.1.Cj,R.1.Room,R.1.BL,R.1.Ca,R.1.CD,R.1.Rest,R.1.Cr,R.1.Da,now,turn,ps,cs,[],[])=some r/\Red l r:=by
 have hrl:=CU hr;unfold jq;dsimp only;have ⟨a,Y,Z,e2,e3,_,_,e4⟩:=VZ (n:=1) hk;obtain⟨nt,rfl⟩:=AHD (e3 (by omega));have G:Mu 1 rest=some ([nt],Y):=Z;rw[G,AB,show at? [nt] 0=some nt from rfl,AB,Db,AB,BW];have B:∀g,Good g l->nt=(g.BM.length:Int)/\Y=g.BM++g.BI.map up:=by intro g e;have ⟨q1,S,X,O⟩:=Q g e;have ⟨u1,u2⟩:=e4 [(g.BM.length:Int)] (g.BM++g.BI.map up) (by rw[O];rfl) rfl;cases u1;exact⟨rfl,u2⟩
 cases q:inB nt 0 4 with
 |false=>
  refine⟨_,rfl,Red.bad λg e=>?_⟩;have:=(O3 e.1).todo;have:=(O3 e.1).EI;have:inB nt 0 4=true:=by rw[B6,(B g e).1];omega
  rw[q]at this;cases this
 |true=>
  rw[B6]at q;obtain⟨n,rfl⟩:=AX q.1;have ⟨td,r2,f1,f2,f3,_,_,f4⟩:=VZ (n:=n) e2;rw[f1,AB,YJ (by have:=f3 (by omega);dsimp only;omega),AB];have ⟨c,hc⟩:=AX (show 0<=R.1.Da by omega);have ⟨js,r3,g1,g2,g3,_,_,g4⟩:=VZ (n:=c) f2;have H:Mu R.1.Da r2=some (js,r3):=by rw[hc];exact g1
  rw[H,AB];rw[AaW hl (by dsimp only;omega)];refine AaT hl (h:=⟨R.1,now,turn,ps,cs,td,js.map (λj=>w64 (j-1))⟩) rfl ⟨by dsimp only;omega,L,J,I,by dsimp only;omega,by dsimp only;rw[Af];omega⟩ ?_;intro g e;have ⟨⟨q1,S,X⟩,O,q5,q6⟩:=Q g e;have ⟨p1,p2⟩:=B g e;have E:=O3 e.1;have ⟨v1,v2⟩:=f4 _ _ p2 (by omega);have ⟨w1,w2⟩:=g4 (g.BI.map up) [] (by rw[v2,CO]) (by rw[Af];have:=E.P7;rw[q1]at this;omega);have hj:js.map (λj=>w64 (j-1))=g.BI:=by
   rw[w1,DU]
   conv=>rhs;rw[<-Pb g.BI]
   apply J0;intro y hy;have:=E.job y hy;show w64 (w64 (y+1)-1)=y;rw[A6 (n:=y+1),A6];omega
  rw[hj,v1];cases g;dsimp only at *;rw[q1,S,X,O,q5]
theorem AaV(Q:EG R.1=true){ps:List AR}{rest:List Int}(hk:rest.length<=1048576)(B:ps.length<=40)
 (ha:∀g,Good g l->Hd g R.1 now turn/\g.AG=ps/\rest=tl3 g 0) :
 ∃r,jo l R (rest,(),R.1.Cj,R.1.Room,R.1.BL,R.1.Ca,R.1.CD,R.1.Rest,R.1.Cr,R.1.Da,now,turn,ps,[],[],[])=some r/\Red l r:=by
 have hrl:=CU Q;unfold jo;refine H4 (n:=R.1.AZ.length) (λi (v:List Ak×List Int)=>((i:Int),v.2,(),R.1.Cj,R.1.Room,R.1.BL,R.1.Ca,R.1.CD,R.1.Rest,R.1.Cr,R.1.Da,now,turn,ps,v.1,[],[]))
  (λi v=>v.1.length=i/\(∀c∈v.1,E3 c)/\v.2.length<=1048576/\∀g,Good g l->Hd g R.1 now turn/\g.AG=ps/\v.1=g.AI.take i/\v.2=tl3 g i)
  (Red l) (by omega) ?_ (v:=([],rest)) ⟨rfl,by simp,hk,λg j=>by have ⟨h1,h2,h3⟩:=ha g j;exact⟨h1,h2,by simp,h3⟩⟩
 rintro L i ⟨cs,q⟩ ⟨O,gf,I,J⟩ hi S;dsimp only at O gf I J S ⊢;unfold ABd be;dsimp only;rcases AV i R.1.AZ.length with h|h;have hD:R.1.AZ.getD i 0=R.1.AZ[i]:=by simp[h]
 have ⟨a,q',X,Y,Z,_,_,e4⟩:=VZ (n:=1) I;obtain⟨f,rfl⟩:=AHD (Z (by omega));have H:Mu 1 q=some ([f],q'):=X;have ⟨qu,u1,u2,u3⟩:=m7 (r:=R.1) (show R.1.AZ.length<2 ^ 62 by omega) B (i:Int) now;have ⟨pi,v1,v2,v3⟩:=pj B (i:Int);rw[S6 h,BT h];simp only[AB,H,show at? [f] 0=some f from rfl,u1,v1,yU (show pi.length<=1048576 by omega),eV (show ps.length<2 ^ 58 by omega),eX (show ps.length<2 ^ 58 by omega),Cy,Kx,Ky,Kz,KG,K0,K1];rw[DX,Bh h];refine S (cs++[Ak.mk (BO.mk R.1.AZ[i] f (KI ps i) (w64 (w64 (R.1.AZ[i]-f)-KI ps i)) (Kn ps i)) qu (Ni pi).1],q') ⟨by simp[O],?_,Y,λg j=>?_⟩ h;intro x E;rcases Br.1 E with E|E;exact gf x E;rw[EL.1 E];exact⟨by dsimp only;omega,fU _⟩;have ⟨⟨p1,p2,p3⟩,p4,p5,G⟩:=J g j;have e:=O3 j.1;have y:i<g.AI.length:=by rw[e.EH,p1];exact h
 have ⟨w1,w2,w3,w4⟩:=e.cab i y;unfold tl3 at G;rw[D4 y]at G;have ⟨x1,x2⟩:=e4 [fr g.AI[i]] (((g.AI.drop (i+1)).map fr)++tl4 g) (by rw[G];rfl) rfl;refine⟨⟨p1,p2,p3⟩,p4,?_,x2⟩;grind[List.take_add_one,nO];obtain rfl:i=R.1.AZ.length:=by omega
 rw[gP,AW];refine AaS hl Q I (by omega) (by omega) gf λg j=>?_;have ⟨p1,p4,p5,G⟩:=J g j;have e:=O3 j.1;have hn:g.AI.length=R.1.AZ.length:=by rw[e.EH,p1.1]
 refine⟨p1,p4,?_,?_⟩;rw[p5,BH (by omega)];rw[G];unfold tl3;rw[A9 (by omega)];rfl
theorem AaU(hr:EG R.1=true){n:Int}{x:List Int×List Int}(hx:at? x.1 2=some n)(O:0<=n)(hn:n<=40){rest:List Int}(hk:rest.length<=1048576)
 (ha:∀g,Good g l->Hd g R.1 now turn/\(g.AG.length:Int)=n/\rest=tl2 g 0) :
 ∃r,BK (jr l R x) big (0,rest,(),R.1.Cj,R.1.Room,R.1.BL,R.1.Ca,R.1.CD,R.1.Rest,R.1.Cr,R.1.Da,now,turn,[],[],[],[])=some r/\Red l r:=by
 obtain⟨m,rfl⟩:=AX O;refine H4 (n:=m) (λi (v:List AR×List Int)=>((i:Int),v.2,(),R.1.Cj,R.1.Room,R.1.BL,R.1.Ca,R.1.CD,R.1.Rest,R.1.Cr,R.1.Da,now,turn,v.1,[],[],[]))
  (λi v=>v.1.length=i/\v.2.length<=1048576/\∀g,Good g l->Hd g R.1 now turn/\g.AG.length=m/\v.1=g.AG.take i/\v.2=tl2 g i)
  (Red l) (by omega) ?_ (v:=([],rest)) ⟨rfl,hk,λg H=>by have ⟨h1,h2,h3⟩:=ha g H;exact⟨h1,by omega,by simp,h3⟩⟩
 rintro L i ⟨ps,q⟩ ⟨X,J,Y⟩ hi Z;dsimp only at X J Y Z ⊢;unfold jr;dsimp only;rw[hx,AB];rcases AV i m with h|h;have ⟨xs,q',e1,e2,e3,_,_,e4⟩:=VZ (n:=10) J;obtain⟨a0,c,a,a3,a4,e,j,y,B,E,rfl⟩:=ten (e3 (by omega));have I:Mu 10 q=some ([a0,c,a,a3,a4,e,j,y,B,E],q'):=e1;have f0:at? [a0,c,a,a3,a4,e,j,y,B,E] 0=some a0:=rfl;have f1:at? [a0,c,a,a3,a4,e,j,y,B,E] 1=some c:=rfl;have f2:at? [a0,c,a,a3,a4,e,j,y,B,E] 2=some a:=rfl;have f3:at? [a0,c,a,a3,a4,e,j,y,B,E] 3=some a3:=rfl;have f4:at? [a0,c,a,a3,a4,e,j,y,B,E] 4=some a4:=rfl;have f5:at? [a0,c,a,a3,a4,e,j,y,B,E] 5=some e:=rfl;have f6:at? [a0,c,a,a3,a4,e,j,y,B,E] 6=some j:=rfl;have f7:at? [a0,c,a,a3,a4,e,j,y,B,E] 7=some y:=rfl;have f8:at? [a0,c,a,a3,a4,e,j,y,B,E] 8=some B:=rfl;have f9:at? [a0,c,a,a3,a4,e,j,y,B,E] 9=some E:=rfl;rw[S6 h,I];simp only[f0,f1,f2,f3,f4,f5,f6,f7,f8,f9,AB];rw[DX,Bh h];refine Z (ps++[⟨a0,c,w64 (a-1),a3,a4,e,j,y,B,E⟩],q') ⟨by simp[X],e2,λg H=>?_⟩ h;have ⟨p1,p2,p3,p4⟩:=Y g H;have G:i<g.AG.length:=by omega
 have Q:=Fc ((O3 H.1).par i G);have hs:=(CU Q.1).1;unfold tl2 at p4;rw[D4 G,CV]at p4;have ⟨S,u2⟩:=e4 (Qv g.AG[i]) _ p4 rfl;refine⟨p1,p2,?_,u2⟩;rw[Cg,AU G];dsimp only;congr 1;congr 1;unfold Qv at S;simp only[B3,and_true]at S;have ⟨q0,q1,q2,q3,q4,q5,q6,q7,q8,q9⟩:=S;have hfrom:w64 (a-1)=g.AG[i].Bs:=by rw[q2,A6 (n:=g.AG[i].Bs+1),A6];omega
 rw[hfrom,q0,q1,q3,q4,q5,q6,q7,q8,q9];obtain rfl:i=m:=by omega
 rw[gP,AW];refine AaV hl hr J (by omega) λg H=>?_;grind[tl2]
end impl
theorem yN{l:List Int}(hl:l.length<=1048576):∃r,ABc l=some r/\Red l r:=by
 unfold ABc;have ⟨a,J,a1,a2,a3,_,_,a4⟩:=VZ (n:=1) hl;obtain⟨sz,rfl⟩:=AHD (a3 (by omega));have S:Mu 1 l=some ([sz],J):=a1;rw[S,AB,show at? [sz] 0=some sz from rfl,AB,Db,AB,BW];have B:∀g,Good g l->sz=((Hu g.AQ).length:Int)/\J=Hu g.AQ++(g.Now::g.A3::(g.AG.length:Int)::tl2 g 0):=by intro g c;have ⟨O,I⟩:=a4 [((Hu g.AQ).length:Int)] _ (sg c) rfl;cases O;exact⟨rfl,I⟩
 have hbadE:∀(_:∀g,¬Good g l),∃r,UR l ([sz],J) sz true=some r/\Red l r:=by intro Y;unfold UR;exact⟨_,rfl,Red.bad Y⟩
 cases L:inB sz 9 12 with
 |false=>
  rw[brJ];refine hbadE λg c=>?_;have h1:=SZ g.AQ;have h2:=(O3 c.1).EI;have:inB sz 9 12=true:=by rw[B6,(B g c).1];omega
  rw[L]at this;cases this
 |true=>
  rw[B6]at L;rw[AW];obtain⟨s,rfl⟩:=AX (show 0<=sz by omega);by_cases E:(s:Int)>(J.length:Int);rw[show decide ((s:Int)>(J.length:Int))=true from decide_eq_true E];refine hbadE λg c=>?_;have ⟨O,I⟩:=B g c;rw[I,AH]at E;omega;rw[show decide ((s:Int)>(J.length:Int))=false from decide_eq_false E];unfold UR;have ⟨xs,r2,c1,c2,_,c3,_,c4⟩:=VZ (n:=s) a2;rw[c1,AB];dsimp only;rw[yT (by omega),AB,BW];have e:∀g,Good g l->xs=Hu g.AQ/\r2=g.Now::g.A3::(g.AG.length:Int)::tl2 g 0:=by intro g c;have ⟨O,I⟩:=B g c;exact c4 _ _ I (by omega)
  cases hR:(Mb xs).2 with
  |false=>refine⟨_,rfl,Red.bad λg c=>?_⟩;rw[(e g c).1,O4 (O3 c.1).rules]at hR;cases hR
  |true=>
   have Z:=(oJ hR).1;have ⟨ys,r3,d1,d2,d3,_,_,d4⟩:=VZ (n:=3) c2;obtain⟨G,H,q,rfl⟩:=three (d3 (by omega));have X:Mu 3 r2=some ([G,H,q],r3):=d1;have y:∀g,Good g l->G=g.Now/\H=g.A3/\q=(g.AG.length:Int)/\r3=tl2 g 0:=by intro g c;have ⟨O,I⟩:=e g c;have ⟨Q,v2⟩:=d4 [g.Now,g.A3,(g.AG.length:Int)] (tl2 g 0) (by rw[I];rfl) rfl;simp only[B3,and_true]at Q;exact⟨Q.1,Q.2.1,Q.2.2,v2⟩
   rw[X,AB];rw[show at? [G,H,q] 0=some G from rfl,AB,show at? [G,H,q] 1=some H from rfl,AB,show at? [G,H,q] 2=some q from rfl,AB,Db,AB,BW];cases j:inB q 0 40 with
   |false=>
    refine⟨_,rfl,Red.bad λg c=>?_⟩;have h2:=(O3 c.1).few;have:inB q 0 40=true:=by rw[B6,(y g c).2.2.1];omega
    rw[j]at this;cases this
   |true=>rw[B6]at j;refine AaU hl Z (x:=([G,H,q],r3)) rfl j.1 j.2 d2 λg c=>?_;have ⟨q1,q2,q3,q4⟩:=y g c;refine⟨⟨?_,q1.symm,q2.symm⟩,q3.symm,q4⟩;rw[(e g c).1,O4 (O3 c.1).rules]
theorem uX(hl:l.length<=1048576):∃r,ABz l=some r/\ABc l=some r/\Red l r:=by have ⟨r,c,a⟩:=zm hl;have ⟨r',e,g⟩:=yN hl;exact⟨r,c,by rw[e,g.one a],a⟩
theorem Na:Bt Jd:=by constructor<;>simp[Jd,AAO]
theorem Red.fit{l:List Int}{r:AF×Bool}(h:Red l r):Bt r.1:=by
 cases e:r.2 with
 |true=>exact(h.1 e).1.2.1|false=>rw[(h.2 e).1];exact Na
theorem ATi:∀{l:List Int},(∀n∈l,okN n)->l.length<=(pL l).length
 | [],_=>by simp|n::l,h=>by have c:=ATi λm a=>h m (Am _ a);have e:=nn (h n (BQ ..));have:pL (n::l)=pN n++pL l:=rfl;rw[this,AH,AK];omega
structure AVz(s:List UInt8)(r:AF×Int×Bool):Prop where
 yes:r.2.2=true->C0 r.1=true/\Bt r.1/\Cu r.1 r.2.1=s
 no:r.2.2=false->r=(Jd,0,false)
 all:∀h q,C0 h=true->Bt h->rdL (s.length+1) (s.drop 4)=some (q::EC h)->Cu h q=s->5<=s.length->r=(h,q,true)
theorem AVz.fit{s:List UInt8}{r:AF×Int×Bool}(h:AVz s r):Bt r.1:=by
 cases e:r.2.2 with
 |true=>exact(h.yes e).2.1|false=>rw[h.no e];exact Na
theorem AXL(h:rdL f s=some l):l.length<=s.length/\(s≠[]->l≠[]):=by have ⟨a,c⟩:=aF f s l h;refine⟨by rw[a];exact ATi c,λe hl=>?_⟩;rw[hl]at a;exact e a
theorem AD5{g:Nat}(h:rdL f s=some l)(e:s.length<g):rdL g s=some l:=by have ⟨a,c⟩:=aF f s l h;grind[zR]
theorem K9{s:List UInt8}(hs:s.length<=1048576):∃r,AB1 s=some r/\eE s=some r/\AVz s r:=by
 unfold AB1 eE Yx Uc be;by_cases h5:s.length<5;rw[BV,BV,ifP,ifP,AW,CB];exact⟨_,rfl,rfl,⟨λh=>(by cases h),λ_=>rfl,λ_ _ _ _ _ _ h=>absurd h (by omega)⟩⟩;have Q:(0:Int)<=4/\(4:Int)<=(s.length:Int):=by omega
 have hd:List.drop (Int.toNat 4) s=s.drop 4:=rfl;have y:(s.drop 4).length<=1048576:=by rw[BD];omega
 rw[BV,BV,ifN,ifN,AW,D2 Q,D2 Q,hd,Zh y,aZ y,AB,AB];have zz:AVz s (Jd,0,false)\/True:=.inr trivial;cases e:rdL ((s.drop 4).length+1) (s.drop 4) with
 |none=>refine⟨(Jd,0,false),?_,rfl,⟨λh=>(by cases h),λ_=>rfl,λh q _ _ c _ _=>?_⟩⟩;rw[BV];split<;>rfl;rw[AD5 c (by omega)]at e;cases e
 |some l=>
  have ⟨l1,l2⟩:=AXL e;have E:=l2 (by rw[<-List.length_pos_iff,BD];omega);obtain⟨q,t,rfl⟩:∃q t,l=q::t:=by
   cases l with
   |nil=>exact(E rfl).elim|cons q t=>exact⟨q,t,rfl⟩
  have H:t.length<=1048576:=by simp only[AK]at l1;omega
  have g1:(0:Int)<=1/\(1:Int)<=((q::t).length:Int):=by simp only[AK];omega
  have G:List.take ((q::t).length-Int.toNat 1) (List.drop (Int.toNat 1) (q::t))=t:=by show List.take ((q::t).length-1) t=t;exact BH (by simp only[AK];omega)
  have a0:at? (q::t) 0=some q:=rfl;have ⟨r,i1,i2,I⟩:=uX H;have X:=I.fit;have a:∀h p,rdL (s.length+1) (s.drop 4)=some (p::EC h)->p=q/\EC h=t:=by intro h p c;rw[AD5 c (by omega)]at e;cases e;exact⟨rfl,rfl⟩
  simp only[AHK,BW,CB,D2 g1,G,i1,i2,AB,a0,JZ X q,Wj X q];cases Y:r.2 with
  |false=>simp only[CI,AW,CB];refine⟨(Jd,0,false),?_,rfl,⟨λh=>(by cases h),λ_=>rfl,λh p g j c _ _=>?_⟩⟩;rw[BV];split<;>rfl;exact((I.2 Y).2 h ⟨g,j,(a h p c).2⟩).elim
  |true=>simp only[CB,AW];have ⟨⟨Z,c2,c3⟩,O⟩:=I.1 Y;by_cases hT:Cu r.1 q=s;have B:=Fz r.1 q;rw[hT]at B;rw[show (Cu r.1 q != s)=false from by simp[hT],CI,BV,ifN];refine⟨_,rfl,rfl,⟨λ_=>⟨Z,c2,hT⟩,λh=>(by cases h),λh p g j c _ _=>?_⟩⟩;have ⟨J,L⟩:=a h p c;rw[J,O h ⟨g,j,L⟩];rw[show (Cu r.1 q != s)=true from by simp[hT],CB];refine⟨(Jd,0,false),?_,rfl,⟨λh=>(by cases h),λ_=>rfl,λh p g j c S _=>?_⟩⟩;rw[BV];split<;>rfl;have ⟨J,L⟩:=a h p c;rw[J,O h ⟨g,j,L⟩]at S;exact(hT S).elim
def CM(s:BY)(k:Int):Bp:=if (k.tmod 2==0)=true then s.DR else s.Odd
theorem EK(s:BY)(k:Int):eD s k=some (CM s k):=by unfold eD CM br;split<;>rfl
theorem Dz(s:BY)(k:Int):∃r,GX s k=some r/\MJ s k=some r/\Bt r.1:=by
 unfold GX MJ;rw[EK,AB,AB,Dw,AB,AB,BW,BW];cases h:Eu (CM s k) with
 |false=>exact⟨_,rfl,rfl,Na⟩|true=>unfold Eu at h;rw[AD,decide_eq_true_iff,B6]at h;have ⟨r,a,c,e⟩:=K9 (s:=List.take (CM s k).Safe.toNat (CM s k).Data) (by rw[Ag];omega);rw[CB,CB,D2 h.2,D2 h.2,a,c,AB];exact⟨r,rfl,rfl,e.fit⟩
theorem KT{o:Type}(p:o->Bool):∀(l:List o) (s:Nat),(atF p l s = -1/\l.eraseP p=l/\l.any p=false) \/
 ∃k,∃h:k<l.length,atF p l s=((s+k:Nat):Int)/\l.eraseP p=l.take k++l.drop (k+1)/\l.any p=true/\p l[k]=true
 | [],s=>.inl ⟨rfl,rfl,rfl⟩|x::l,s=>by
  by_cases h:p x=true;grind[atF];have g:p x=false:=by simpa using h
  rcases KT p l (s+1) with ⟨a,c,e⟩|⟨k,q,a,c,e,j⟩;grind[atF];grind[atF]
theorem Wt{l:List Ar}(hl:l.length<=1048576)(id:Int):kb l id=some (l.eraseP (λx=>x.Id==id),l.any λx=>x.Id==id):=by grind[lim,kb,Tg,AB,BV,KT,Q3,A6,D2]
theorem Xg{l:List AR}(hl:l.length<=1048576)(id:Int):Yl l id=some (atF (λx=>x.Id==id) l 0):=by grind[Yl,Su,jz,CB,BT,AB,HH,CI,AW]
theorem pz{l:List AR}(hl:l.length<=1048576)(id:Int):AI9 l id=some (l.eraseP (λx=>x.Id==id)):=by have hlim:=Gk;unfold AI9;rw[Xg hl,AB,BV];rcases KT (λx:AR=>x.Id==id) l 0 with ⟨a,c,e⟩|⟨k,g,a,c,e,_⟩;grind[D2];grind[A6,D2]
def l8(l:BO)(n a b c d:Int):BO×Bool:=
 let l':BO:=⟨l.Total,w64 (l.Et+w64 (a*n)),w64 (l.FU+w64 (b*n)),w64 (l.Ge+w64 (c*n)),w64 (l.Gm+w64 (d*n))⟩
 if Fi l=true/\inB n 0 60=true/\Fi l'=true then (l',true) else (l,false)
theorem Lx(l:BO)(n a b c d:Int):Y5 l n a b c d=some (l8 l n a b c d):=by unfold Y5 kX l8;grind[Fo,Db,AB,AW,Be]
theorem qA(l:BO)(n:Int):AI6 l n=some (l8 l n 0 0 0 1):=by unfold AI6;rw[Lx,AB]
theorem fq(l:BO)(n:Int):AJA l n=some (l8 l n 0 0 0 (-1)):=by unfold AJA;rw[Lx,AB]
theorem oh(l:BO)(n:Int):ACG l n=some (l8 l n (-1) 1 0 0):=by unfold ACG;rw[Lx,AB]
theorem oZ(l:BO)(n:Int):AI8 l n=some (l8 l n 1 (-1) 0 0):=by unfold AI8;rw[Lx,AB]
theorem ou(l:BO)(n:Int):AJE l n=some (l8 l n 0 (-1) 1 0):=by unfold AJE;rw[Lx,AB]
theorem og(l:BO)(n:Int):AJC l n=some (l8 l n 1 0 (-1) 0):=by unfold AJC;rw[Lx,AB]
def isP(p:Bf)(x:Bf):Bool:=x.At==p.At&&(x.Id==p.Id&&true)
def WX(w:A2)(p:Bf):A2×Bool:=
 if Iu w=true/\1<=p.At then (⟨w.Av.set (p.At.tmod 9).toNat ((w.Av.getD (p.At.tmod 9).toNat []).eraseP (isP p))⟩,(w.Av.getD (p.At.tmod 9).toNat []).any (isP p)) else (w,false)
theorem Wv(q:DQ w)(p:Bf):rl w p=some (WX w p):=by
 have hlim:=Gk;have J:=q.1;have y:=q.2;unfold rl WX;rw[Vn q,AB,JN q,AB,BW,AW,AW,Be];by_cases c:Iu w=true;rw[AY c];unfold kZ;rw[BV];by_cases E:p.At<1;rw[AY E,ifN];rw[Aa E,AY ⟨c,by omega⟩];have ⟨m,S,e⟩:=fT (n:=p.At) (by omega);have hW:=ET.1 c;have a:m<w.Av.length:=by have:=hW.1;omega
 have I:w.Av[m].length<=1048576:=Ax (Ly a) y;rw[e,Ah];have H:w.Av.getD m []=w.Av[m]:=by rw[BB,AU a];rfl
 rw[H];generalize g:w.Av[m]=s at I ⊢;have key:=Dl (F:=Y6 w p w) (n:=s.length) (λi (_:Unit)=>(i:Int)) (λ_ _=>True)
  (λi _=>some (if (s.drop i).any (isP p)=true then ((⟨w.Av.set m (s.take i++(s.drop i).eraseP (isP p))⟩:A2),true) else (w,false))) (by omega) ?_ (v:=()) trivial
 have key':BK (Y6 w p w) big 0=_:=key;rw[key'];simp only[CX,List.take_zero,Az];split;rename_i h;rw[h];rename_i h;have B:s.any (isP p)=false:=by simpa using h
 have G:s.eraseP (isP p)=s:=List.eraseP_of_forall_not λx O=>by have:=LB.1 B x O;simpa using this
 rw[B,G,<-g,List.set_getElem_self];intro L i _ _ hi Q;unfold Y6 ACH be;rw[e,BT a,AB,g];rcases AV i s.length with h|h;rw[bnT h];simp only[AB,BT h,Ah];rw[D4 h];show br (isP p s[i]) _ _=_;cases j:isP p s[i] with
 |true=>rw[CB,Bh h,D2 ⟨by omega,by omega⟩,D2 ⟨by omega,by omega⟩,D2 (by rw[Ag];simp;omega),D2 (by rw[AH,Ag];simp;omega)];simp only[Nl,j,Bool.true_or,if_true,Ih j,Az,Ah]
 |false=>rw[CI,Bh h,Q () trivial h];simp only[Nl,j,Bool.false_or,Ig (show ¬isP p s[i]=true by rw[j];simp),List.take_succ_eq_append_getElem h,BF,JP]
 have:i=s.length:=by omega
 subst this;rw[bnJ,Cx];rfl;rw[Aa c,Aa (by simp[c])];rfl
def Gt(h:AF)(id:Int):Int:=atF (λx:AR=>x.Id==id) h.AG 0
theorem IB(a:Bt h)(id:Int):Ns h id=some (Gt h id):=by unfold Ns;rw[Xg a.Cc,AB];rfl
def AAo:Ak:=⟨⟨0,0,0,0,0⟩,[],⟨[]⟩⟩
def zM:AR:=⟨0,0,0,0,0,0,0,0,0,0⟩
theorem Gq{k:Int}(a:0<=k)(c:k<h.AI.length):at? h.AI k=some (h.AI.getD k.toNat AAo):=by grind[BT]
theorem ax{k:Int}(a:0<=k)(c:k<h.AG.length):at? h.AG k=some (h.AG.getD k.toNat zM):=by grind[BT]
theorem TY(a:0<=Gt h id):Gt h id<h.AG.length/\(h.AG.getD (Gt h id).toNat zM).Id=id:=by grind[Gt,KT]
def MS(h:AF)(k:Int):Int:=w64 ((h.AI.getD k.toNat AAo).AZ.Ge-(h.AI.getD k.toNat AAo).AZ.Gm)
theorem Ng{k:Int}(a:0<=k)(c:k<h.AI.length):Yw h k=some (MS h k):=by unfold Yw;rw[Gq a c,AB,AB];rfl
def Zm(h:AF)(q:Bo):Int:=
 if (h.AI.length:Int)<=q.Ab\/(h.AI.length:Int)<=q.Bs\/q.Bs=q.Ab then 4
 else if inB q.BL 1 h.AQ.BL=false then 5
 else if h.AQ.Cj<=q.DH then 6
 else if inB q.Id 1 999=false then 7
 else if 0<=Gt h q.Id then 8
 else if h.AQ.Room<=Ds h.AG q.Ab then 9
 else if 0<=q.Bs/\MS h q.Bs<q.BL then 10
 else if 1000000<h.A3 then 11 else 0
theorem zw(a:Bt h)(q:Bo):AIq h q=some (Zm h q):=by
 have j:=a.Cc;have g:∀b,((h.AI.length:Int)<=q.Bs->b=true)->UZ h q b=some (if b=true then 4
  else if inB q.BL 1 h.AQ.BL=false then 5
  else if h.AQ.Cj<=q.DH then 6
  else if inB q.Id 1 999=false then 7
  else if 0<=Gt h q.Id then 8
  else if h.AQ.Room<=Ds h.AG q.Ab then 9
  else if 0<=q.Bs/\MS h q.Bs<q.BL then 10
  else if 1000000<h.A3 then 11 else 0):=by
  intro b c;unfold UZ kJ;cases b with
  |true=>rfl|false=>
   have hF:q.Bs<h.AI.length:=by by_cases e:(h.AI.length:Int)<=q.Bs;cases c e;omega
   simp only[CI,Db,AB,BW,Be,Bool.false_eq_true,if_false,ge_iff_le,gt_iff_lt,decide_eq_true_eq,IB a,JL (show h.AG.length<2 ^ 58 by omega),AW];cases inB q.BL 1 h.AQ.BL;rfl;grind[Ng,AB]
 grind[AIq,Zm,BV,AW]
def AYw(p:AR)(now:Int):Bool:=p.State==2&&decide (p.DK<=now)
theorem AEU(p:AR)(now:Int):kK p now=some (AYw p now):=by unfold kK Au AYw;rw[AW,AW,DE]
def MF(h:AF)(id:Int):Int:=
 if Gt h id<0 then 7
 else if (h.AG.getD (Gt h id).toNat zM).State≠2 then 13
 else if AYw (h.AG.getD (Gt h id).toNat zM) h.Now=true then 14 else 0
theorem VX(a:Bt h)(id:Int):AIr h id=some (MF h id):=by unfold AIr MF;grind[IB,AB,ax,TY,AEU,Be]
def Is(h:AF)(q:Bo):Int:=
 if inB q.Kind 1 7=false then 2
 else if LD q=false then 3
 else if q.Kind=1 then Zm h q
 else if q.Kind=2 then if Gt h q.Id<0 then 7 else 0
 else if q.Kind=3 then if (h.AI.length:Int)<=q.Ab then 4 else if inB q.BL 1 60=false then 5 else if MS h q.Ab<q.BL then 12 else 0
 else if q.Kind=4\/q.Kind=5 then MF h q.Id
 else if q.Kind=6 then if 1000000<=h.Now then 15 else 0
 else if q.Kind=7 then if h.AQ.Da<=q.Id then 16 else if h.BI.getD q.Id.toNat 0<0/\h.BM.length=0 then 17 else 0
 else 0
def verdict(h:AF)(q:Bo):Int:=if C0 h=true then Is h q else 1
theorem IC(y:Bt h)(q:Bo):Ua h q=some (verdict h q):=by
 unfold Ua verdict;rw[GV y,AB,BW,Be];by_cases j:C0 h=true;rw[AY j,AY j];unfold Is;rw[Db,AB,BW,Be];cases inB q.Kind 1 7;rfl;simp only[if_true,Dq,if_false];rw[oz,AB,BW,Be];cases e:LD q;rfl;simp only[if_true,Dq,if_false,Be,beq_iff_eq,AW];by_cases g:q.Kind=1;rw[AY g,AY g,zw y,AB];rw[Aa g,Aa g];by_cases E:q.Kind=2;rw[AY E,AY E,IB y,AB];simp only[decide_eq_true_eq];split<;>rfl;rw[Aa E,Aa E];by_cases B:q.Kind=3;rw[AY B,AY B];have X:0<=q.Ab:=by unfold LD at e;rw[Aa g,ifN,AY B]at e;simp only[AD,Up,B6]at e;exact e.1.1
 simp only[ge_iff_le,decide_eq_true_eq,Db,AB,BE];by_cases a:(h.AI.length:Int)<=q.Ab;rw[AY a,AY a];rw[Aa a,Aa a];cases inB q.BL 1 60;rfl;simp only[Dq,if_false];rw[Ng X (by omega),AB];by_cases S:MS h q.Ab<q.BL<;>simp[S]<;>rfl;rw[Aa B,Aa B];unfold kL;by_cases c:q.Kind=4\/q.Kind=5;rw[AY c];rcases c with c|c;simp only[c,if_true,beq_self_eq_true,CB,VX y,AB];simp only[c,if_true,beq_self_eq_true,CB,VX y,AB];rfl;have I:q.Kind≠4:=λh=>c (.inl h);have J:q.Kind≠5:=λh=>c (.inr h);rw[Aa c,Aa I];have L:(q.Kind==5)=false:=by simpa using J
 rw[L,CI];try simp only[Be,beq_iff_eq,AW,ge_iff_le,decide_eq_true_eq]
 by_cases G:q.Kind=6;rw[AY G,AY G];split<;>rfl;rw[Aa G,Aa G];by_cases H:q.Kind=7;rw[AY H,AY H];have hR:=O3 j;have hi:0<=q.Id:=by unfold LD at e;rw[Aa g,ifP]at e;simp only[AD,Up,B6]at e;exact e.1.1
 by_cases a:h.AQ.Da<=q.Id;rw[AY a,AY a];rw[Aa a,Aa a];have ⟨n,Y⟩:=AX hi;have hl:n<h.BI.length:=by have:=hR.P7;omega
 rw[Y,BT hl,AB,Ah,BB,AU hl,DN];unfold Rs G2;simp only[Be,AW,beq_iff_eq];by_cases O:h.BI[n]<0<;>by_cases Q:h.BM.length=0<;>simp[O,Q];rw[Aa H,Aa H];rfl;rw[Aa j,Aa j]
def Sj(l:List Int)(k:Int):List Int:=if l.any (λy=>y==k)=true then l else l++[k]
theorem Ka(hl:l.length<=1048576)(k:Int):Tz l k=some (Sj l k):=by grind[lim,Tz,Sj,D2,Ti,AB,Be]
def cbn(h:AF)(k:Int):Ak:=h.AI.getD k.toNat AAo
def C1(h:AF)(k:Int)(c:Ak):AF:={h with AI:=h.AI.set k.toNat c}
theorem W5{k:Int}(a:0<=k)(c:k<h.AI.length):cbn h k∈h.AI:=by grind[cbn,List.getElem?_eq_getElem,List.getElem_mem]
theorem fP(e:Bt h)(a:0<=p.Ab)(c:p.Ab<h.AI.length) :
 eC h p=some (C1 h p.Ab ⟨(cbn h p.Ab).AZ,put ltE (Fh h.AQ p h.Now).1 (cbn h p.Ab).Row,(cbn h p.Ab).B9⟩):=by have hlim:=Gk;have j:=e.EI;have g:=(e.EX _ (W5 a c)).1;unfold eC be;rw[aS (by omega),AB,Gq a c,AB,AB];show bd (ACm (cbn h p.Ab).Row _) _=_;rw[Xh (by omega),AB,AB,AB];rfl
theorem aW(g:Bt h)(a:0<=p.Ab)(c:p.Ab<h.AI.length) :
 ka h p=some (C1 h p.Ab ⟨(l8 (cbn h p.Ab).AZ p.BL 1 (-1) 0 0).1,(cbn h p.Ab).Row,(WX (cbn h p.Ab).B9 ⟨p.DK,p.Id⟩).1⟩):=by have e:=(g.EX _ (W5 a c)).2;unfold ka be;rw[Gq a c,AB,AB,oZ,AB];show bd (rl (cbn h p.Ab).B9 _) _=_;rw[Wv e,AB,AB,AB,D2 ⟨rfl,⟨by omega,by omega⟩,trivial⟩];rfl
def gone(h:AF)(p:AR):AF:=
 let h':AF:={h with AG:=h.AG.eraseP (λx=>x.Id==p.Id)}
 if 0<=p.Bs then C1 h' p.Bs ⟨(l8 (cbn h p.Bs).AZ p.BL 0 0 0 (-1)).1,(cbn h p.Bs).Row,(cbn h p.Bs).B9⟩ else h'
theorem PC(e:Bt h)(c:p.Bs<h.AI.length):Wd h p=some (gone h p):=by unfold Wd Gg gone be;rw[pz e.Cc,AB,BV];by_cases a:0<=p.Bs;rw[AY a,AY a,Gq a c,AB,AB,fq,AB,AB,AB,AW];rfl;rw[Aa a,Aa a,AW]
def Ur(h:AF)(k n:Int):AF:=
 let h':=C1 h k ⟨(l8 (cbn h k).AZ n 1 0 (-1) 0).1,(cbn h k).Row,(cbn h k).B9⟩
 {h' with BM:=Sj h.BM k}
theorem aX(e:Bt h){k:Int}(a:0<=k)(c:k<h.AI.length)(n:Int):rm h k n=some (Ur h k n):=by unfold rm Ur be;rw[Gq a c,AB,AB,og,AB,AB,AB,Ka e.todo,AB];rfl
def MT(a b:AR):Bool:=decide (a.Id<b.Id)
def Mm(l:List AR)(p:AR):List AR:=
 if 0<=atF (λx:AR=>x.Id==p.Id) l 0 then l.set (atF (λx:AR=>x.Id==p.Id) l 0).toNat p else put MT p l
theorem RS{l:List AR}(hl:l.length<=1048576)(p:AR):Wb l p=some (Mm l p):=by
 have hlim:=Gk;unfold Wb Mm be;rw[Xg hl,AB,DX,BV,Az];split;grind[atF,AR,KT,BT,AB];rename_i c;have a:∀i:Nat,i<=l.length->UX l p i=some (l.take i++p::l.drop i):=by grind[UX,Cy,Kx,Lc,Ky,Kz,KG,K0,K1,FP,Mk,Int.toNat_natCast,List.length_take,D2,List.length_cons,List.length_nil,List.length_append,List.length_drop]
 refine VN (lt:=MT) some (by omega) ?_ ?_;intro L i h;unfold Ym UW;rw[bnT h,BT h,AB,AW,AW,a i (by omega)];rfl;intro L;unfold Ym UW;rw[bnJ,brJ,a _ (Aj _)];simp
def FN(r:Ad)(p:AR)(now:Int):AR×Bool:=
 if EE r p now=true/\p.State=2/\w64 (p.De+1)<r.Cr then ({p with State:=1,DK:=w64 (now+r.Rest),De:=w64 (p.De+1)},true) else (zM,false)
theorem AEV(e:r.AZ.length<2 ^ 62)(p:AR)(now:Int):ACI r p now=some (FN r p now):=by
 unfold ACI Nv FN;rw[O6 e,AB];simp only[AW,BW,Be,ge_iff_le,decide_eq_true_eq,bne_iff_ne,ne_eq];cases EE r p now;rfl;by_cases a:p.State=2;by_cases c:r.Cr<=w64 (p.De+1);have:¬w64 (p.De+1)<r.Cr:=by omega
 simp[a,c,this];rfl;grind;simp[a];rfl
structure Xu(n:Nat)(c:Ak):Prop where
 row:c.Row.length<=n
 Wx:c.B9.Av.length<=1048576
 pins:c.B9.Av.flatten.length<=n
structure Sm(n:Nat)(h:AF):Prop where
 EI:h.AQ.AZ.length<=1048576
 Cc:h.AG.length<=n
 EH:h.AI.length<=1048576
 EX:∀c∈h.AI,Xu n c
 todo:h.BM.length<=n
 Gs:h.BI.length<=1048576
theorem Xu.mono(h:Xu n c)(a:n<=m):Xu m c:=⟨Ax h.row a,h.Wx,Ax h.pins a⟩
theorem Sm.mono(a:Sm n h)(e:n<=m):Sm m h:=
 ⟨a.EI,Ax a.Cc e,a.EH,λc g=>(a.EX c g).mono e,Ax a.todo e,a.Gs⟩
theorem Sm.fit(a:Sm n h)(e:n<=1048576):Bt h:=
 ⟨a.EI,Ax a.Cc e,a.EH,λc g=>⟨Ax (a.EX c g).row e,(a.EX c g).Wx,Ax (a.EX c g).pins e⟩,Ax a.todo e,a.Gs⟩
theorem Sm.cab(a:Sm n h){k:Int}(j:Xu n c):Sm n (C1 h k c):=by refine⟨a.EI,a.Cc,by simpa[C1] using a.EH,?_,a.todo,a.Gs⟩;intro q e;rcases Cb e with g|rfl;exact a.EX _ g;exact j
theorem AWL(n:Nat):Xu n AAo:=⟨by simp[AAo],by simp[AAo],by simp[AAo]⟩
theorem Sm.cbn{n:Nat}{h:AF}(e:Sm n h)(k:Int):Xu n (cbn h k):=by
 unfold Lv.P.cbn;rw[BB];cases a:h.AI[k.toNat]? with
 |none=>exact AWL n|some c=>exact e.EX c (List.mem_of_getElem? a)
theorem XZ{o:Type}(lt:o->o->Bool)(a:o):∀l:List o,(put lt a l).length=l.length+1| []=>rfl|b::l=>by unfold put;split<;>simp[XZ lt a l]
theorem XB(p:o->Bool)(l:List o):(l.eraseP p).length<=l.length:=(Jx).length_le
theorem ALF(h:Xu n c)(p:Bf):(WX c.B9 p).1.Av.length<=1048576/\(WX c.B9 p).1.Av.flatten.length<=n:=by
 unfold WX;split;refine⟨by simpa using h.Wx,?_⟩;rcases AV (p.At.tmod 9).toNat c.B9.Av.length with a|a;have e:c.B9.Av.getD (p.At.tmod 9).toNat []=c.B9.Av[(p.At.tmod 9).toNat]:=by rw[BB,AU a];rfl
 have g:=mJ a ((c.B9.Av[(p.At.tmod 9).toNat]).eraseP (isP p));have j:=XB (isP p) (c.B9.Av[(p.At.tmod 9).toNat]);have q:=h.pins;dsimp only;rw[e];omega;dsimp only;rw[List.set_eq_of_length_le a];exact h.pins;exact⟨h.Wx,h.pins⟩
theorem Sk(l:List Int)(k:Int):(Sj l k).length<=l.length+1:=by unfold Sj;split<;>simp
theorem ATn(l:List AR)(p:AR):(Mm l p).length<=l.length+1:=by grind[Mm,XZ]
theorem AU8(g:Sm n h){k:Int}{l:BO}(a:Xu n c):Sm (n+1) (C1 h k ⟨l,put ltE e c.Row,c.B9⟩):=by refine(g.mono (Dg n)).cab ⟨?_,a.Wx,Ax a.pins (Dg n)⟩;rw[XZ];have:=a.row;omega
theorem gY(a:Sm n h)(p:AR):Sm n (gone h p):=by
 have e:Sm n {h with AG:=h.AG.eraseP (λx=>x.Id==p.Id)}:=
  ⟨a.EI,Ax (XB _ _) a.Cc,a.EH,a.EX,a.todo,a.Gs⟩
 unfold gone;split;have c:=a.cbn p.Bs;exact e.cab ⟨c.row,c.Wx,c.pins⟩;exact e
theorem AC4(g:Sm n h)(k m:Int):Sm (n+1) (Ur h k m):=by have e:=g.cbn k;have a:=(g.cab (k:=k) (c:=⟨(l8 (Lv.P.cbn h k).AZ m 1 0 (-1) 0).1,(Lv.P.cbn h k).Row,(Lv.P.cbn h k).B9⟩) ⟨e.row,e.Wx,e.pins⟩).mono (Dg n);unfold Ur;exact⟨a.EI,a.Cc,a.EH,a.EX,Ax (Sk _ _) (by have:=g.todo;omega),a.Gs⟩
def dropped(h:AF)(p:AR):AF:=C1 h p.Ab ⟨(l8 (cbn h p.Ab).AZ p.BL 1 (-1) 0 0).1,(cbn h p.Ab).Row,(WX (cbn h p.Ab).B9 ⟨p.DK,p.Id⟩).1⟩
theorem Pv(c:Sm n h)(p:AR):Sm n (dropped h p):=by have a:=c.cbn p.Ab;have e:=ALF a ⟨p.DK,p.Id⟩;exact c.cab ⟨a.row,e.1,e.2⟩
def QT(h:AF)(l:List AR):AF:={h with AG:=l}
def Hv(h:AF)(p:AR):AF:=C1 h p.Ab ⟨(cbn h p.Ab).AZ,put ltE (Fh h.AQ p h.Now).1 (cbn h p.Ab).Row,(cbn h p.Ab).B9⟩
theorem WQ(c:Sm n h)(p:AR):Sm (n+1) (QT h (Mm h.AG p)):=by have a:=c.mono (Dg n);exact⟨a.EI,Ax (ATn _ _) (by have:=c.Cc;omega),a.EH,a.EX,a.todo,a.Gs⟩
def Jg(h:AF)(p:AR):AF:=
 if (FN h.AQ p h.Now).2=true then Hv (QT (dropped h p) (Mm h.AG (FN h.AQ p h.Now).1)) (FN h.AQ p h.Now).1 else gone (dropped h p) p
theorem eM(h:(FN r p now).2=true):(FN r p now).1.Ab=p.Ab:=by grind[FN]
theorem APV(a:Sm n h)(p:AR):Sm (n+2) (Jg h p):=by unfold Jg;split;exact AU8 (WQ (Pv a p) _) ((WQ (Pv a p) _).cbn _);exact(gY (Pv a p) p).mono (by omega)
theorem Ww(G:n+2<=1048576)(c:Sm n h)(e:0<=p.Ab)(g:p.Ab<h.AI.length)(y:p.Bs<h.AI.length):rp h p=some (Jg h p):=by
 unfold rp;rw[aW (c.fit (by omega)) e g,AB];have q:=Pv c p;have H:=c.EI;show bd (ACI h.AQ p h.Now) _=_;rw[AEV (by omega),AB,BW,Be];unfold Jg;have a:(dropped h p).AI.length=h.AI.length:=by simp[dropped,C1]
 split;rename_i B;have j:=eM B;rw[RS (by have:=c.Cc;show h.AG.length<=_;omega),AB];have E:=WQ q (FN h.AQ p h.Now).1;show bd (eC (QT (dropped h p) (Mm h.AG (FN h.AQ p h.Now).1)) _) _=_;rw[fP (h:=QT (dropped h p) (Mm h.AG (FN h.AQ p h.Now).1)) (E.fit (by omega)) (by rw[j];exact e) (by rw[j];show p.Ab<((dropped h p).AI.length:Int);rw[a];exact g),AB];rfl;show bd (Wd (dropped h p) p) _=_;rw[PC (q.fit (by omega)) (by rw[a];exact y),AB]
def Ey(h:AF)(l:List Int):AF:={h with BM:=l}
def Iw(h:AF)(id cb fr sz tr:Int):AR:=⟨id,cb,fr,sz,tr,h.Now,h.A3,1,0,0⟩
def KQ(h:AF)(k n:Int):AF:=C1 h k ⟨(l8 (cbn h k).AZ n 0 0 0 1).1,(cbn h k).Row,(cbn h k).B9⟩
def Ld(h:AF)(id cb fr sz tr:Int):AF:=
 let p:=Iw h id cb fr sz tr;let x:=Hv {h with A3:=w64 (h.A3+1),AG:=Mm h.AG p} p;let y:=if 0<=fr then KQ x fr sz else x
 Ey y (Sj y.BM cb)
def eu(h:AF)(id cb fr sz tr:Int):AF×Int:=
 if verdict h ⟨1,id,cb,fr,sz,tr⟩≠0 then (h,verdict h ⟨1,id,cb,fr,sz,tr⟩) else (Ld h id cb fr sz tr,0)
theorem AL4(e:Bt h)(a:0<=p.Ab)(c:p.Ab<h.AI.length):eC h p=some (Hv h p):=fP e a c
theorem ak{cb fr:Int}(a:verdict h ⟨1,id,cb,fr,sz,tr⟩=0):C0 h=true/\0<=cb/\cb<h.AI.length/\fr<h.AI.length:=by grind[verdict,Is,LD,Up,B6,Zm]
theorem ANt(Q:n+3<=1048576)(G:Sm n h)(id cb fr sz tr:Int):AI7 h id cb fr sz tr=some (eu h id cb fr sz tr)/\Sm (n+3) (eu h id cb fr sz tr).1:=by
 have E:=G.fit (by omega);unfold AI7 kY eu be;rw[Im E,AB,IC E,AB];simp only[Be,bne_iff_ne,ne_eq,BV,ge_iff_le,AW];by_cases y:verdict h ⟨1,id,cb,fr,sz,tr⟩=0;have ⟨O,I,J,L⟩:=ak y;rw[Aa (not_not_intro y),Aa (not_not_intro y),RS E.Cc,AB];have g:Sm (n+1) ({h with A3:=w64 (h.A3+1),AG:=Mm h.AG (Iw h id cb fr sz tr)}:AF):=by have j:=WQ G (Iw h id cb fr sz tr);exact⟨j.EI,j.Cc,j.EH,j.EX,j.todo,j.Gs⟩
 have e:Sm (n+2) (Hv {h with A3:=w64 (h.A3+1),AG:=Mm h.AG (Iw h id cb fr sz tr)} (Iw h id cb fr sz tr)):=AU8 g (g.cbn _);show bd (eC {h with A3:=w64 (h.A3+1),AG:=Mm h.AG (Iw h id cb fr sz tr)} (Iw h id cb fr sz tr)) _=_/\_;rw[AL4 (g.fit (by omega)) (show 0<=(Iw h id cb fr sz tr).Ab from I) (show (Iw h id cb fr sz tr).Ab<_ from J),AB];simp only[decide_eq_true_eq];unfold Ld;dsimp only;generalize hX:Hv {h with A3:=w64 (h.A3+1),AG:=Mm h.AG (Iw h id cb fr sz tr)} (Iw h id cb fr sz tr)=X at e ⊢;have q:X.AI.length=h.AI.length:=by rw[<-hX];simp[Hv,C1]
 by_cases c:0<=fr;rw[AY c,AY c,Gq c (by rw[q];exact L),AB,AB,qA,AB,AB,AB,Ka (by have:=e.todo;show X.BM.length<=_;omega),AB];have B:=e.cbn fr;have H:Sm (n+2) (KQ X fr sz):=e.cab ⟨B.row,B.Wx,B.pins⟩;have a:=H.mono (Dg (n+2));exact⟨rfl,a.EI,a.Cc,a.EH,a.EX,Ax (Sk _ _) (by have:=H.todo;omega),a.Gs⟩;rw[Aa c,Aa c];show bd (Tz X.BM cb) _=_/\_;rw[Ka (by have:=e.todo;omega),AB];have a:=e.mono (Dg (n+2));exact⟨rfl,a.EI,a.Cc,a.EH,a.EX,Ax (Sk _ _) (by have:=e.todo;omega),a.Gs⟩;rw[AY y,AY y];exact⟨rfl,G.mono (by omega)⟩
def par(h:AF)(id:Int):AR:=h.AG.getD (Gt h id).toNat zM
theorem oH(e:C0 h=true)(c:0<=Gt h id):0<=(par h id).Ab/\(par h id).Ab<h.AI.length /\ -1<=(par h id).Bs/\(par h id).Bs<h.AI.length/\(par h id).Id=id:=by
 have hR:=O3 e;have ⟨y,B⟩:=TY c;have hi:(Gt h id).toNat<h.AG.length:=by omega
 have a:=hR.par _ hi;have j:par h id=h.AG[(Gt h id).toNat]:=by unfold par;rw[BB,AU hi];rfl
 rw[<-j]at a;unfold EE at a;have E:=hR.EI;simp only[AD,B6]at a;have ⟨_,_,_,g,q,_⟩:=a;rw[A6]at g q;have:=hR.EH;grind
def eO(h:AF)(k n:Int):AF×Int:=
 if verdict h ⟨3,0,k,0,n,0⟩≠0 then (h,verdict h ⟨3,0,k,0,n,0⟩) else (Ur h k n,0)
theorem To{k n:Int}(a:verdict h ⟨3,0,k,0,n,0⟩=0):C0 h=true/\0<=k/\k<h.AI.length:=by grind[verdict,Is,LD,Up,B6]
theorem oW(y:m+1<=1048576)(e:Sm m h)(k n:Int):AJD h k n=some (eO h k n)/\Sm (m+1) (eO h k n).1:=by have c:=e.fit (by omega);unfold AJD eO;rw[Im c,AB,IC c,AB];simp only[Be,bne_iff_ne,ne_eq];by_cases a:verdict h ⟨3,0,k,0,n,0⟩=0;have ⟨q,g,j⟩:=To a;grind[aX,AB,AC4];rw[AY a,AY a];exact⟨rfl,e.mono (by omega)⟩
theorem T2(a:verdict h ⟨5,id,0,0,0,0⟩=0):C0 h=true/\0<=Gt h id:=by grind[verdict,Is,MF,Gt]
def ACp(h:AF)(id:Int):AF:=Ey (Jg h (par h id)) (Sj (Jg h (par h id)).BM (par h id).Ab)
def N3(h:AF)(id:Int):AF×Int:=
 if verdict h ⟨5,id,0,0,0,0⟩≠0 then (h,verdict h ⟨5,id,0,0,0,0⟩) else (ACp h id,0)
theorem zj(I:n+3<=1048576)(g:Sm n h)(id:Int):AJG h id=some (N3 h id)/\Sm (n+3) (N3 h id).1:=by have j:=g.fit (by omega);unfold AJG N3;rw[Im j,AB,IC j,AB];simp only[Be,bne_iff_ne,ne_eq];by_cases e:verdict h ⟨5,id,0,0,0,0⟩=0;have ⟨E,p0⟩:=T2 e;have ⟨q,y,H,B,G⟩:=oH E p0;rw[Aa (not_not_intro e),Aa (not_not_intro e),IB j];simp only[AB,ax p0 (TY p0).1,Cy,Kx,Lc,Ky,Kz,KG,K0,K1,FP];have a:=APV g (par h id);show bd (rp h (par h id)) _=_/\_;rw[Ww (by omega) g q y B,AB,Ka (by have:=a.todo;omega),AB];have c:=a.mono (Dg (n+2));exact⟨rfl,c.EI,c.Cc,c.EH,c.EX,Ax (Sk _ _) (by have:=a.todo;omega),c.Gs⟩;rw[AY e,AY e];exact⟨rfl,g.mono (by omega)⟩
theorem Vd(a:verdict h ⟨2,id,0,0,0,0⟩=0):C0 h=true/\0<=Gt h id:=by grind[verdict,Is]
def Va(h:AF)(k id:Int):AF:=C1 h k ⟨(cbn h k).AZ,(cbn h k).Row.eraseP (λx=>x.Id==id),(cbn h k).B9⟩
def cancelled(h:AF)(id:Int):AF:=
 let p:=par h id;if p.State=2 then gone (Ey (dropped h p) (Sj (dropped h p).BM p.Ab)) p else gone (Va h p.Ab id) p
def Qe(h:AF)(id:Int):AF×Int:=
 if verdict h ⟨2,id,0,0,0,0⟩≠0 then (h,verdict h ⟨2,id,0,0,0,0⟩) else (cancelled h id,0)
theorem AGk(e:Bt h)(a:0<=p.Ab)(c:p.Ab<h.AI.length):ka h p=some (dropped h p):=aW e a c
theorem AES(O:n+1<=1048576)(c:Sm n h)(id:Int):AJB h id=some (Qe h id)/\Sm (n+1) (Qe h id).1:=by
 have j:=c.fit (by omega);unfold AJB Qe be;rw[Im j,AB,IC j,AB];simp only[Be,bne_iff_ne,ne_eq];by_cases e:verdict h ⟨2,id,0,0,0,0⟩=0;have ⟨J,p0⟩:=Vd e;have ⟨y,B,Q,G,L⟩:=oH J p0;rw[Aa (not_not_intro e),Aa (not_not_intro e),IB j];simp only[AB,ax p0 (TY p0).1,Cy,Kx,Lc,Ky,Kz,KG,K0,K1,FP,beq_iff_eq,AW];show (if (par h id).State=2 then bd (ka h (par h id)) _ else bd (at? h.AI (par h id).Ab) _)=_/\_;unfold cancelled;by_cases q:(par h id).State=2;rw[AY q,AY q,AGk j y B,AB];have E:=Pv c (par h id);rw[Ka (by have:=E.todo;omega),AB];have a:=E.mono (Dg n);have H:Sm (n+1) (Ey (dropped h (par h id)) (Sj (dropped h (par h id)).BM (par h id).Ab)):=
  ⟨a.EI,a.Cc,a.EH,a.EX,Ax (Sk _ _) (by have:=E.todo;omega),a.Gs⟩
 unfold Y7;show bd (Wd (Ey (dropped h (par h id)) (Sj (dropped h (par h id)).BM (par h id).Ab)) (par h id)) _=_/\_;rw[PC (H.fit O) (by (have:(Ey (dropped h (par h id)) (Sj (dropped h (par h id)).BM (par h id).Ab)).AI.length=h.AI.length:=by simp[Ey,dropped,C1]);rw[this];exact G),AB];exact⟨rfl,gY H _⟩;rw[Aa q,Aa q];simp only[show at? h.AI (par h id).Ab=some (cbn h (par h id).Ab) from Gq y B,show at? h.AI (h.AG.getD (Gt h id).toNat zM).Ab=some (cbn h (par h id).Ab) from Gq y B,AB];have g:=c.cbn (par h id).Ab;show bd (kb (cbn h (par h id).Ab).Row id) _=_/\_;rw[Wt (by have:=g.row;omega),AB];have I:Sm n (Va h (par h id).Ab id):=c.cab ⟨Ax (XB _ _) g.row,g.Wx,g.pins⟩;unfold Y7;show bd (Wd (Va h (par h id).Ab id) (par h id)) _=_/\_;rw[PC (I.fit (by omega)) (by (have:(Va h (par h id).Ab id).AI.length=h.AI.length:=by simp[Va,C1]);rw[this];exact G),AB];exact⟨rfl,(gY I _).mono (Dg n)⟩;rw[AY e,AY e];exact⟨rfl,c.mono (by omega)⟩
theorem Vc(a:verdict h ⟨4,id,0,0,0,0⟩=0):C0 h=true/\0<=Gt h id:=by grind[verdict,Is,MF,Gt]
def RR(h:AF)(p:AR):AF:=C1 h p.Ab ⟨(l8 (cbn h p.Ab).AZ p.BL 0 (-1) 1 0).1,(cbn h p.Ab).Row,(WX (cbn h p.Ab).B9 ⟨p.DK,p.Id⟩).1⟩
theorem AXU(c:Sm n h)(p:AR):Sm n (RR h p):=by have a:=c.cbn p.Ab;have e:=ALF a ⟨p.DK,p.Id⟩;exact c.cab ⟨a.row,e.1,e.2⟩
def accepted(h:AF)(id:Int):AF:=
 let p:=par h id;if 0<=p.Bs then Ur (gone (RR h p) p) p.Bs p.BL else gone (RR h p) p
def QY(h:AF)(id:Int):AF×Int:=
 if verdict h ⟨4,id,0,0,0,0⟩≠0 then (h,verdict h ⟨4,id,0,0,0,0⟩) else (accepted h id,0)
theorem ADC(h:AF)(p:AR):(gone h p).AI.length=h.AI.length:=by grind[gone,C1]
theorem AEQ(L:n+1<=1048576)(j:Sm n h)(id:Int):AJF h id=some (QY h id)/\Sm (n+1) (QY h id).1:=by
 have e:=j.fit (by omega);unfold AJF QY be;rw[Im e,AB,IC e,AB];simp only[Be,bne_iff_ne,ne_eq];by_cases c:verdict h ⟨4,id,0,0,0,0⟩=0;have ⟨G,p0⟩:=Vc c;have ⟨q,y,J,B,I⟩:=oH G p0;rw[Aa (not_not_intro c),Aa (not_not_intro c),IB e];have H:=(e.EX _ (W5 q y)).2;have E:=AXU j (par h id);have hl:(RR h (par h id)).AI.length=h.AI.length:=by simp[RR,C1]
 simp only[AB,ax p0 (TY p0).1,show at? h.AI (h.AG.getD (Gt h id).toNat zM).Ab=some (cbn h (par h id).Ab) from Gq q y,Cy,Kx,Lc,Ky,Kz,KG,K0,K1,FP,ou,Wv H,AW,BV,ge_iff_le,decide_eq_true_eq];rw[D2 ⟨rfl,⟨by omega,by omega⟩,trivial⟩];show bd (Wd (RR h (par h id)) (par h id)) _=_/\_;rw[PC (E.fit (by omega)) (by rw[hl];exact B),AB];have g:=gY E (par h id);unfold accepted Nu;by_cases a:0<=(par h id).Bs;rw[AY a];show (if 0<=(par h id).Bs then bd (rm (gone (RR h (par h id)) (par h id)) (par h id).Bs (par h id).BL) _ else _)=_/\_;rw[AY a,aX (g.fit (by omega)) a (by rw[ADC,hl];exact B),AB];exact⟨rfl,AC4 g _ _⟩;rw[Aa a];show (if 0<=(par h id).Bs then _ else _)=_/\_;rw[Aa a];exact⟨rfl,g.mono (Dg n)⟩;rw[AY c,AY c];exact⟨rfl,j.mono (by omega)⟩
def M9(h:AF)(i:Nat):AF:=
 let x:=C1 h i ⟨(cbn h i).AZ,EF h.AQ h.AG i h.Now,(cbn h i).B9⟩;if 0<Ds h.AG i then Ey x (Sj h.BM i) else x
def Mh:Nat->Nat->AF->AF|0,_,h=>h|k+1,i,h=>Mh k (i+1) (M9 h i)
theorem uK(h:AF)(i:Nat):(M9 h i).AI.length=h.AI.length:=by grind[M9,C1,Ey]
theorem pF(c:Sm n h)(i:Nat):Sm (n+1) (M9 h i):=by
 have e:=c.cbn (i:Int);have g:(EF h.AQ h.AG (i:Int) h.Now).length<=n:=by unfold EF;rw[Ir];exact Ax (B8 _ _) c.Cc
 have j:Sm n (C1 h i ⟨(cbn h i).AZ,EF h.AQ h.AG i h.Now,(cbn h i).B9⟩):=c.cab ⟨g,e.Wx,e.pins⟩;have a:=j.mono (Dg n);unfold M9;split;exact⟨a.EI,a.Cc,a.EH,a.EX,Ax (Sk _ _) (by have:=c.todo;omega),a.Gs⟩;exact a
theorem AVc(B:Sm n h)(H:n+h.AI.length<=1048576):BK Y8 big (0,h)=some (Mh h.AI.length 0 h,0):=by
 generalize a:h.AI.length=len at *;refine(Dl (F:=Y8) (n:=len) (λi (v:AF)=>((i:Int),v)) (λi v=>Sm (n+i) v/\v.AI.length=len) (λi v=>some (Mh (len-i) i v,0)) (by omega) ?_ (v:=h) ⟨B,a⟩).trans (by rw[Nat.sub_zero]);intro L i v ⟨y,c⟩ hi G;have j:=y.fit (by omega);unfold Y8 be;dsimp only;rw[c];rcases AV i len with g|g;have I:=j.EI;have E:=j.Cc;rw[bnT g,O7 (by omega) E,AB,Gq (by omega) (by omega),AB,AB,JL (by omega),AB];have e:Mh (len-i) i v=Mh (len-(i+1)) (i+1) (M9 v i):=by rw[show len-i=(len-(i+1))+1 by omega];rfl
 rw[e];have q:=G (M9 v i) ⟨by have:=pF y i;rw[CW]at this;exact this,by rw[uK];exact c⟩ g;rw[<-q];unfold Rv M9;simp only[BV,gt_iff_lt,AW,Bh g (show len<2 ^ 63 by omega),Ah,Ka j.todo,AB];split<;>rfl;have:i=len:=by omega
 subst this;rw[bnJ,Nat.sub_self];rfl
def AAC(h:AF):AF:=Mh h.AI.length 0 {h with Now:=w64 (h.Now+1)}
def fS(h:AF):AF×Int:=
 if verdict h ⟨6,0,0,0,0,0⟩≠0 then (h,verdict h ⟨6,0,0,0,0,0⟩) else (AAC h,0)
theorem AEf:∀(k i:Nat) {n:Nat} {h:AF},Sm n h->Sm (n+k) (Mh k i h)|0,_,_,_,a=>a|k+1,i,n,h,a=>by have:=AEf k (i+1) (pF a i);rw[CW,Nat.add_comm 1 k]at this;exact this
theorem ANx(a:Sm n h)(j:n+h.AI.length<=1048576):AJH h=some (fS h)/\Sm (n+h.AI.length) (fS h).1:=by have g:=a.fit (by omega);unfold AJH fS;rw[Im g,AB,IC g,AB];simp only[Be,bne_iff_ne,ne_eq];have e:Sm n {h with Now:=w64 (h.Now+1)}:=⟨a.EI,a.Cc,a.EH,a.EX,a.todo,a.Gs⟩;by_cases c:verdict h ⟨6,0,0,0,0,0⟩=0;rw[Aa (not_not_intro c),Aa (not_not_intro c),AVc e j];exact⟨rfl,AEf _ _ e⟩;rw[AY c,AY c];exact⟨rfl,a.mono (by omega)⟩
def mF(w:A2)(now:Int):List Int:=(Fk w).filterMap λp=>if p.At<=now then some p.Id else none
theorem zq(a:DQ w)(now:Int):ACJ w now=some ((Fk w).filter λp=>decide (p.At<=now)):=by
 have hlim:=Gk;have hl:=KL a;unfold ACJ;rw[Q1 a,AB,collect (l:=Fk w) (λp=>if p.At<=now then some p else none) some hl ?_ ?_];congr 1;generalize Fk w=l;induction l with
 |nil=>rfl|cons p l c=>grind
 simp only[kf,be];grind[KW,BT,AB,BV,AW,D2];grind[kf,Ec,CI,AW]
theorem AEY(g:Bt h){k:Int}(a:0<=k)(c:k<h.AI.length):AJI h k=some (mF (cbn h k).B9 h.Now):=by
 have hlim:=Gk;have e:=(g.EX _ (W5 a c)).2;have hl:=KL e;unfold AJI;rw[Gq a c,AB];show bd (ACJ (cbn h k).B9 h.Now) _=_;rw[zq e,AB];generalize hD:(Fk (cbn h k).B9).filter (λp=>decide (p.At<=h.Now))=D;have hDl:D.length<=1048576:=by rw[<-hD];exact Ax (List.length_filter_le _ _) hl
 rw[collect (l:=D) (λp=>some p.Id) some hDl ?_ ?_];unfold mF;rw[<-hD];congr 1;generalize Fk (cbn h k).B9=l;induction l with
 |nil=>rfl|cons p l j=>grind
 simp only[Rx,be];grind[CB,BT,AB,D2];grind[Rx,FX,CI,AW]
section
variable{o:Type}{lt:o->o->Bool}
theorem Z7(a:o):∀l:List o,(put lt a l).Perm (a::l)
 | []=>.refl _|z::l=>by unfold put;split;exact((Z7 a l).cons z).trans (.swap a z l);exact .refl _
theorem PT:∀l:List o,(Dv lt l).Perm l| []=>.refl _|a::l=>(Z7 a _).trans ((PT l).cons a)
def Ts(lt:o->o->Bool)(l:List o):Prop:=l.Pairwise λa b=>lt a b=true\/lt b a=true
theorem Ts.perm{a c:List o}(h:Ts lt a)(e:a.Perm c):Ts lt c:=(e.pairwise_iff (λh=>h.symm)).1 h
theorem OD(h:Swo lt){l:List o}(q:Ts lt l):(Dv lt l).Pairwise λa b=>lt a b=true:=by have c:(Dv lt l).Pairwise λa b=>lt b a=false:=V1 h l;have e:Ts lt (Dv lt l):=q.perm (PT (lt:=lt) l).symm;exact(c.and e).imp λ{a b} ⟨g,j⟩=>j.resolve_right (by rw[g];simp)
theorem uD(h:Swo lt):∀{g j:List o},(g.Pairwise λa b=>lt a b=true)->(j.Pairwise λa b=>lt a b=true)->g.Perm j->g=j
 | [],j,_,_,c=>c.nil_eq|a::g,[],_,_,c=>by cases c.eq_nil
 |a::g,b::j,q,y,c=>by rw[Bn]at q y;by_cases e:a=b;subst e;rw[uD h q.2 y.2 c.cons_inv];have E:a∈j:=(Ae.1 (c.subset (BQ ..))).resolve_left e;have B:b∈g:=(Ae.1 (c.symm.subset (BQ ..))).resolve_left (Ne.symm e);have:=h.uf _ _ (q.1 b B);grind
theorem AXV(h:Swo lt){a c:List o}(e:Ts lt a)(g:a.Perm c):Dv lt a=Dv lt c:=
 uD h (OD h e) (OD h (e.perm g)) ((PT a).trans (g.trans (PT c).symm))
end
structure Uni(ps:List AR):Prop where
 id:ps.Pairwise λp q=>p.Id≠q.Id
 turn:ps.Pairwise λp q=>p.A3≠q.A3
theorem Uni.perm(h:Uni a)(c:a.Perm b):Uni b:=⟨(c.pairwise_iff (λh=>Ne.symm h)).1 h.id,(c.pairwise_iff (λh=>Ne.symm h)).1 h.turn⟩
theorem Uni.tail(h:Uni (p::b)):Uni b:=⟨(Bn.1 h.id).2,(Bn.1 h.turn).2⟩
theorem S8(a:EE r p now=true)(c:p.State=1):Fh r p now=({p with Level:=Jh r p now},true):=by grind[Fh]
theorem eL(h:¬(EE r p now=true/\p.State=1)):Fh r p now=(⟨0,0,0,0⟩,false):=by unfold Fh;rw[Aa h]
theorem KY{c:Int}(h:Mn r c now p=some e):e={p with Level:=Jh r p now}/\EE r p now=true/\p.State=1/\p.Ab=c:=by grind[Mn,S8,eL]
theorem AMN(a:EE r p now=true)(e:p.State=1)(c:Int):Mn r c now p=if p.Ab=c then some {p with Level:=Jh r p now} else none:=by unfold Mn;rw[S8 a e];simp
theorem ATr{c:Int}(a:p.State≠1):Mn r c now p=none:=by grind[Mn,eL]
theorem WC{c:Int}{e:Bf}(h:OA c p=some e):e=⟨p.DK,p.Id⟩/\p.State=2/\p.Ab=c:=by grind[OA]
theorem AOP(h:Uni ps)(r:Ad)(c now:Int):Ts ltE (ps.filterMap (Mn r c now)):=by unfold Ts;rw[E0];refine h.turn.imp ?_;intro p q j a e b g;obtain⟨rfl,_⟩:=KY e;obtain⟨rfl,_⟩:=KY g;grind[V4]
theorem ADv(h:Uni ps)(a:ps.Perm qs)(r:Ad)(c now:Int):EF r ps c now=EF r qs c now:=AXV gk (AOP h r c now) (a.filterMap _)
theorem XY(a:ps.Perm qs)(c:Int):G7 ps c=G7 qs c:=nE Fq gl (a.filterMap _)
theorem VO(r:Ad)(p:AR)(ps:List AR)(c now:Int):EF r (p::ps) c now=match Mn r c now p with|some e=>put ltE e (EF r ps c now)|none=>EF r ps c now:=by unfold EF;rw[Jy];cases Mn r c now p<;>rfl
theorem XX(p:AR)(ps:List AR)(c:Int):G7 (p::ps) c=match OA c p with|some e=>put ltP e (G7 ps c)|none=>G7 ps c:=by unfold G7;rw[Jy];cases OA c p<;>rfl
theorem Pz(f:AR->Int)(g:Int->AR->Int)(a:∀n p,g n p=n+f p):∀(l:List AR) (n:Int),l.foldl g n=n+l.foldl g 0| [],n=>by simp|p::l,n=>by rw[Bu,Bu,Pz f g a l,Pz f g a l (g 0 p),a,a];omega
def Zb(c:Int)(p:AR):Int:=if ((p.State==2)&&((p.Ab==c)&&inB p.BL 1 6))=true then p.BL else 0
def uM(c:Int)(p:AR):Int:=if ((p.Bs==c)&&inB p.BL 1 6)=true then p.BL else 0
def AWP(c:Int)(p:AR):Int:=if (p.Ab==c)=true then 1 else 0
theorem AKR(c n:Int)(p:AR):Wg c n p=n+Zb c p:=by grind[Wg,Zb]
theorem AK7(c n:Int)(p:AR):Wy c n p=n+uM c p:=by grind[Wy,uM]
theorem AAx(c n:Int)(p:AR):Q9 c n p=n+AWP c p:=by grind[Q9,AWP]
theorem P3(p:AR)(ps:List AR)(c:Int):KI (p::ps) c=Zb c p+KI ps c:=by unfold KI;rw[Bu,Pz _ _ (AKR c),AKR];omega
theorem Xm(p:AR)(ps:List AR)(c:Int):Kn (p::ps) c=uM c p+Kn ps c:=by unfold Kn;rw[Bu,Pz _ _ (AK7 c),AK7];omega
theorem dk(p:AR)(ps:List AR)(c:Int):Ds (p::ps) c=AWP c p+Ds ps c:=by unfold Ds;rw[Bu,Pz _ _ (AAx c),AAx];omega
theorem pA{F:List AR->Int}{f:AR->Int}(hF:∀p l,F (p::l)=f p+F l){a b:List AR}(g:a.Perm b):F a=F b:=by
 induction g with
 |nil=>rfl|cons x _ j=>rw[hF,hF,j]|swap x y l=>rw[hF,hF,hF,hF];omega|trans _ _ c e=>exact c.trans e
theorem AGc(e:a.Perm b)(c:Int):KI a c=KI b c:=pA (F:=λl=>KI l c) (λp l=>P3 p l c) e
theorem AHh(e:a.Perm b)(c:Int):Kn a c=Kn b c:=pA (F:=λl=>Kn l c) (λp l=>Xm p l c) e
theorem UE(e:a.Perm b)(c:Int):Ds a c=Ds b c:=pA (F:=λl=>Ds l c) (λp l=>dk p l c) e
theorem AHZ{F:List AR->Int}{f:AR->Int}(c:F []=0)(hF:∀p l,F (p::l)=f p+F l)(a:∀p,0<=f p):∀l,0<=F l| []=>by omega|p::l=>by have:=a p;have:=AHZ c hF a l;rw[hF];omega
theorem ASu(c:Int)(p:AR):0<=Zb c p:=by grind[Zb,B6]
theorem AVd(c:Int)(p:AR):0<=uM c p:=by grind[uM,B6]
theorem ADD(l:List AR)(c:Int):0<=KI l c:=AHZ (F:=λl=>KI l c) rfl (λp l=>P3 p l c) (ASu c) l
theorem AEg(l:List AR)(c:Int):0<=Kn l c:=AHZ (F:=λl=>Kn l c) rfl (λp l=>Xm p l c) (AVd c) l
def wOf(S:List Bf):A2:=⟨(List.range 9).map λi=>S.filter (G6 i)⟩
theorem gy(S:List Bf):(wOf S).Av.length=9:=by simp[wOf]
theorem AAL(S:List Bf)(h:i<(wOf S).Av.length):(wOf S).Av[i]=S.filter (G6 i):=by simp[wOf]
theorem AVs(S:List Bf)(h:i<9):(wOf S).Av.getD i []=S.filter (G6 i):=by rw[BB,AU (by rw[gy];exact h),DN,AAL]
theorem AAM(a:k<9)(h:∀i,i<9->i≠k->T.filter (G6 i)=S.filter (G6 i)):(⟨(wOf S).Av.set k (T.filter (G6 k))⟩:A2)=wOf T:=by unfold wOf;congr 1;apply Ii;simp;grind
theorem pQ:∀{S:List Bf},(∀p∈S,1<=p.At)->(wOf S).Av.flatten.Perm S
 | [],_=>by simp[wOf]|p::S,h=>by
  have ⟨k,c,e⟩:=fT (h p (BQ ..));have E:=pQ (S:=S) λq B=>h q (Am _ B);have a:G6 k p=true:=Lp.2 e;have g:=AAM (S:=S) (T:=p::S) c (by
   intro i hi y;have:G6 i p=false:=by grind[G6]
   simp[Gf,this])
  rw[<-g];have hl:k<(wOf S).Av.length:=by rw[gy];exact c
  have j:(p::S).filter (G6 k)=p::(wOf S).Av[k]:=by rw[AAL];simp[Gf,a]
  rw[j];rw[GC,AY hl,D6,GO,A8];refine(Lk).trans (List.Perm.cons p ?_);rw[<-GO,<-D6,<-D4 hl,CL];exact E
structure RW(S:List Bf):Prop where
 few:S.length<=10
 pins:∀p∈S,TW p=true
 ids:S.Pairwise λa b=>a.Id≠b.Id
 srt:S.Pairwise λa b=>ltP a b=true
theorem pR(h:RW S):Q6 (wOf S):=by have c:=pQ λp c=>(O2 (h.pins p c)).1.1;refine⟨gy S,by rw[c.length_eq];exact h.few,λp e=>h.pins p (c.subset e),(c.pairwise_iff (λh=>Ne.symm h)).2 h.ids,?_,?_⟩;grind[wOf,G6];intro i hi k j;have g:(S.filter (G6 i)).Pairwise λa b=>ltP a b=true:=h.srt.filter _;grind[AAL,List.pairwise_iff_getElem]
theorem AEr(h:RW S):Fk (wOf S)=S:=by have a:=pQ λp a=>(O2 (h.pins p a)).1.1;unfold Fk;rw[AY (ET.2 (pR h)),nE Fq gl a,SF Fq h.srt]
theorem AZ1(a:Iu w=true):w=wOf (Fk w):=by unfold Fk;rw[AY a];exact dV (ET.1 a)
structure Xt(r:Ad)(ps:List AR)(now:Int)(i:Nat)(c:Ak):Prop where
 row:c.Row=EF r ps i now
 Hk:c.B9=wOf (G7 ps i)
 total:c.AZ.Total=r.AZ.getD i 0
 held:c.AZ.FU=KI ps i
 KQ:c.AZ.Gm=Kn ps i
 led:Fi c.AZ=true
 room:Ds ps i<=r.Room
structure Sr(r:Ad)(now turn:Int)(ps:List AR):Prop where
 few:ps.length<=40
 par:∀p∈ps,EE r p now=true/\p.A3<turn
 ids:ps.Pairwise λp q=>p.Id<q.Id
 turns:ps.Pairwise λp q=>Jb p q=false
structure RH(h:AF):Prop where
 rules:EG h.AQ=true
 now:0<=h.Now/\h.Now<=1000000
 turn:1<=h.A3/\h.A3<=1000001
 EH:h.AI.length=h.AQ.AZ.length
 JJ:Sr h.AQ h.Now h.A3 h.AG
 cab:∀i (hi:i<h.AI.length),Xt h.AQ h.AG h.Now i h.AI[i]
 todo:IS h.BM h.AI.length=true
 Gs:Km h.BI h.AI.length=true
 P7:(h.BI.length:Int)=h.AQ.Da
theorem AE7(p q:AR):Jb p q=Jb q p:=by grind[Jb]
theorem AOe{q:AR}(h:Jb p q=false):p.A3≠q.A3:=by grind[Jb]
theorem Sr.uni(h:Sr r now turn ps):Uni ps:=⟨h.ids.imp λh=>by omega,h.turns.imp λh=>AOe h⟩
theorem nK:Swo MT:=⟨λa b h=>by unfold MT at *;simp only[decide_eq_true_eq,decide_eq_false_iff_not]at *;omega,λa b c h=>by unfold MT at *;simp only[decide_eq_true_eq]at *;omega⟩
theorem fG:MV h=true↔(∀p∈h.AG,EE h.AQ p h.Now=true/\p.A3<h.A3)/\(h.AG.Pairwise λp q=>p.Id<q.Id)/\h.AG.Pairwise λp q=>Jb p q=false:=by
 have a:∀i (hi:i<h.AG.length),fF h i=true↔EE h.AQ h.AG[i] h.Now=true/\h.AG[i].A3<h.A3/\(∀j (c:j<h.AG.length),j+1=i->h.AG[j].Id<h.AG[i].Id)/\∀j (c:j<i),Jb h.AG[j] h.AG[i]=false:=by grind[fF,Ch,LM]
 grind[MV,LM,List.mem_iff_getElem,Pg,MT,nK,List.pairwise_iff_getElem]
theorem ATI(h:EE r p now=true):0<=Jh r p now/\Jh r p now<=4:=by
 have c:=Fc h;have j:=CU c.1;have a:=tG r p.DH (w64 (now-p.Since));unfold Jh;rw[AY h];refine⟨a,?_⟩;unfold cW;rw[A6 (n:=now-p.Since)];have e:0<=(now-p.Since).tdiv r.Ca:=Int.tdiv_nonneg (by omega) (by omega);have g:(now-p.Since).tdiv r.Ca<=now-p.Since:=by rw[Int.tdiv_eq_ediv_of_nonneg (by omega)];exact Int.ediv_le_self _ (by omega)
 grind[A6]
theorem QC{c:Int}(h:e∈EF r ps c now):∃p∈ps,Mn r c now p=some e:=by grind[EF,SG]
theorem tM{c:Int}{e:Bf}(h:e∈G7 ps c):∃p∈ps,OA c p=some e:=by grind[G7,SG]
theorem AHJ(h:Uni ps)(c now:Int):(EF r ps c now).Pairwise λa b=>a.Id≠b.Id:=by refine((PT _).pairwise_iff (λh=>Ne.symm h)).2 ?_;rw[E0];refine h.id.imp ?_;intro p q e a g b j;obtain⟨rfl,_⟩:=KY g;obtain⟨rfl,_⟩:=KY j;exact e
theorem Tb(r:Ad)(ps:List AR)(c now:Int):((EF r ps c now).length:Int)<=Ds ps c:=by unfold EF;rw[Ir];exact gU _ c (by intro p h;unfold Mn;rw[h,D3];rfl) ps
theorem AMI(ps:List AR)(c:Int):((G7 ps c).length:Int)<=Ds ps c:=by unfold G7;rw[Ir];exact gU _ c (by intro p h;unfold OA;rw[h,D3];rfl) ps
theorem ADw(B:Sr r now turn ps){c:Int}(J:Ds ps c<=10):MY (EF r ps c now)=true:=by
 have L:=B.uni;have hl:=Tb r ps c now;unfold MY;rw[AD,LM];refine⟨by simp;omega,?_⟩;intro k g;unfold qAt;rw[Ch g];have ⟨p,E,q⟩:=QC (Aw g);have ⟨j,e,H,I⟩:=KY q;have y:=ATI e;have a:=Fc e;have G:=CU a.1;simp only[AD,BE,decide_eq_false_iff_not];refine⟨?_,?_,?_⟩;rw[j];unfold APU;simp only[AD,B6];omega;grind[Ch,EF,List.pairwise_iff_getElem,OD,gk,AOP];have:atF (λx:Ar=>x.Id==(EF r ps c now)[k].Id) ((EF r ps c now).take k) 0<0:=by rw[iG];grind[List.mem_iff_getElem,List.pairwise_iff_getElem,AHJ]
 omega
theorem Z5(B:Sr r now turn ps){c:Int}(O:Ds ps c<=10):RW (G7 ps c):=by
 have hl:=AMI ps c;have g:(ps.filterMap (OA c)).Pairwise λa b=>a.Id≠b.Id:=by rw[E0];refine B.uni.id.imp ?_;intro p q j a E b G;obtain⟨rfl,_⟩:=WC E;obtain⟨rfl,_⟩:=WC G;exact j
 refine⟨by omega,?_,((PT _).pairwise_iff (λh=>Ne.symm h)).2 g,OD Fq (g.imp ?_)⟩;intro e H;have ⟨p,y,I⟩:=tM H;obtain⟨rfl,J,_⟩:=WC I;have L:=Fc (B.par p y).1;grind[CU,TW,B6];grind[ltP]
theorem GH:C0 h=true↔RH h:=by
 constructor;intro Y;have ⟨G,H,I,J,L,O,Q,S,X,q⟩:=JX Y;have ⟨y,B,E⟩:=fG.1 O;refine⟨G,H,I,L,⟨J,y,B,E⟩,?_,Q,S,X⟩;intro i hi;have j:i<h.AQ.AZ.length:=by omega
 have c:=LM.1 q i hi;unfold dh at c;rw[Ch hi,Ch j]at c;unfold MD Q7 at c;simp only[AD,beq_iff_eq,BE,decide_eq_false_iff_not,KZ vk,KZ vn]at c;have ⟨k1,⟨⟨l1,k3,k4⟩,k5,k6,k7,k8⟩,k9⟩:=c;refine⟨k5,?_,?_,k7,k8,l1,by omega⟩;rw[<-k6];exact AZ1 k4;rw[k1];simp[List.getD,j];intro hR;unfold C0;have Z:=CU hR.rules;simp only[AD,B6,BE,decide_eq_false_iff_not,beq_iff_eq];refine⟨hR.rules,hR.now,hR.turn,by have:=hR.JJ.few;omega,by rw[hR.EH],fG.2 ⟨hR.JJ.par,hR.JJ.ids,hR.JJ.turns⟩,⟨hR.todo,hR.Gs,hR.P7⟩,?_⟩;unfold Ot;rw[LM];intro i hi;have j:i<h.AQ.AZ.length:=by have:=hR.EH;omega
 have a:=hR.cab i hi;have g:Ds h.AG i<=10:=by have:=a.room;omega
 have e:=Z5 hR.JJ g;unfold dh MD Q7;rw[Ch hi,Ch j];simp only[AD,beq_iff_eq,BE,decide_eq_false_iff_not,KZ vk,KZ vn];refine⟨?_,⟨⟨a.led,?_,?_⟩,a.row,?_,a.held,a.KQ⟩,by have:=a.room;omega⟩;rw[a.total];simp[List.getD,j];rw[a.row];exact ADw hR.JJ g;rw[a.Hk];exact ET.2 (pR e);rw[a.Hk];exact AEr e
theorem Gj{l:BO}:Fi l=true↔(1<=l.Total/\l.Total<=60)/\(0<=l.Et/\l.Et<=l.Total)/\(0<=l.FU/\l.FU<=l.Total)/\(0<=l.Ge/\l.Ge<=l.Total)/\l.Et+l.FU+l.Ge=l.Total/\0<=l.Gm/\l.Gm<=l.Ge:=by grind[Fi,B6,A6]
theorem s8{l:BO}(hl:Fi l=true){n a b c d:Int}(J:0<=n/\n<=60)(e:a = -1\/a=0\/a=1)(g:b = -1\/b=0\/b=1)(j:c = -1\/c=0\/c=1)(q:d = -1\/d=0\/d=1)
 (H:Fi ⟨l.Total,l.Et+a*n,l.FU+b*n,l.Ge+c*n,l.Gm+d*n⟩=true):l8 l n a b c d=(⟨l.Total,l.Et+a*n,l.FU+b*n,l.Ge+c*n,l.Gm+d*n⟩,true):=by
 have I:=Gj.1 hl;have w:∀a x:Int,(a = -1\/a=0\/a=1)->0<=x->x<=60->w64 (x+w64 (a*n))=x+a*n:=by grind[A6]
 have y:=w a l.Et e (by omega) (by omega);have B:=w b l.FU g (by omega) (by omega);have E:=w c l.Ge j (by omega) (by omega);have G:=w d l.Gm q (by omega) (by omega);unfold l8;grind[B6]
section
variable{o:Type}{lt:o->o->Bool}
theorem R7{p:o->Bool}{a:o}(c:p a=true):∀{l:List o},(∀x∈l,p x=false)->(put lt a l).eraseP p=l
 | [],_=>by simp[put,c]|z::l,h=>by unfold put;split;rw[Ig (by rw[h z (BQ ..)];simp),R7 c λx e=>h x (Am _ e)];rw[Ih c]
theorem AKr(a:o):∀l:List o,l.Sublist (put lt a l)
 | []=>List.nil_sublist _|z::l=>by unfold put;split;exact(AKr a l).cons_cons z;exact List.sublist_cons_self ..
theorem AFG{p:o->Bool}{l:List o}{k:Nat}(a:k<l.length)(e:l.eraseP p=l.take k++l.drop (k+1)):l.Perm (l[k]::l.eraseP p):=by grind[D4,List.take_append_drop,List.perm_middle]
theorem set_perm{p:o->Bool}{l:List o}{k:Nat}(c:k<l.length)(e:l.eraseP p=l.take k++l.drop (k+1))(a:o):(l.set k a).Perm (a::l.eraseP p):=by rw[e,GC,AY c];exact Lk
end
theorem RW.sub(h:RW T)(a:S.Sublist T):RW S:=⟨Ax a.length_le h.few,λp c=>h.pins p (a.subset c),h.ids.sublist a,h.srt.sublist a⟩
theorem AWr{p x:Bf}:isP p x=true↔x=p:=by unfold isP;have ⟨a,b⟩:=p;have ⟨c,d⟩:=x;simp
theorem nq{S:List Bf}{p:Bf}(h:RW (put ltP p S)):TW p=true/\RW S/\∀x∈S,isP p x=false:=by
 have c:=h.sub (AKr p S);refine⟨h.pins p (WE.2 (.inl rfl)),c,λx e=>?_⟩;cases a:isP p x with
 |false=>rfl|true=>rw[AWr]at a;subst a;have:=((Z7 (lt:=ltP) x S).pairwise_iff (λh=>Ne.symm h)).1 h.ids;grind[List.pairwise_cons]
theorem ALE{p:Bf}(h:RW (put ltP p S))(c:k<9)(e:p.At.tmod 9=(k:Int)):(put ltP p S).filter (G6 k)=put ltP p (S.filter (G6 k))/\∀i,i<9->i≠k->(put ltP p S).filter (G6 i)=S.filter (G6 i):=by have g:Srt ltP S:=(nq h).2.1.srt.imp λ{a b} h=>Fq.uf _ _ h;grind[XD,Fq,Lp]
theorem AXl{p:Bf}(h:RW (put ltP p S)):WX (wOf (put ltP p S)) p=(wOf S,true):=by grind[nq,O2,ALE,isP,WX,ET,pR,AVs,R7,AAM,WE]
theorem AXm{p:Bf}(h:RW (put ltP p S)):PF (wOf S) p=(wOf (put ltP p S),true):=by have ⟨a,y,B⟩:=nq h;have g:=(O2 a).1.1;have ⟨k,c,e⟩:=fT g;have ⟨j,q⟩:=ALE h c e;grind[Xr,wOf,Int.toNat_natCast,AAM,PF,ET,pR]
section
variable{p:AR}{ps:List AR}(i:Int)
theorem Ja(h:1<=p.BL/\p.BL<=6):Kn (p::ps) i=(if p.Bs=i then p.BL else 0)+Kn ps i:=by rw[Xm];unfold uM;grind[inB]
theorem I7:Ds (p::ps) i=(if p.Ab=i then 1 else 0)+Ds ps i:=by rw[dk];unfold AWP;simp
theorem PM(a:p.State≠2):KI (p::ps) i=KI ps i:=by rw[P3];unfold Zb;simp[a]
theorem cJ(a:p.State=2)(h:1<=p.BL/\p.BL<=6):KI (p::ps) i=(if p.Ab=i then p.BL else 0)+KI ps i:=by rw[P3];unfold Zb;grind[inB]
theorem PS(a:p.State≠2):G7 (p::ps) i=G7 ps i:=by rw[XX];unfold OA;simp[a]
theorem WB(a:p.State=2):G7 (p::ps) i=if p.Ab=i then put ltP ⟨p.DK,p.Id⟩ (G7 ps i) else G7 ps i:=by grind[XX,OA]
theorem Xa(r:Ad)(now:Int)(a:p.State≠1):EF r (p::ps) i now=EF r ps i now:=by rw[VO,ATr a]
theorem Lh{r:Ad}{now:Int}(a:EE r p now=true)(c:p.State=1):EF r (p::ps) i now=if p.Ab=i then put ltE {p with Level:=Jh r p now} (EF r ps i now) else EF r ps i now:=by grind[VO,AMN]
end
section
variable{r:Ad}{now turn:Int}{ps:List AR}
theorem Sr.sub{qs:List AR}(h:Sr r now turn ps)(a:qs.Sublist ps):Sr r now turn qs:=
 ⟨Ax a.length_le h.few,λp c=>h.par p (a.subset c),h.ids.sublist a,h.turns.sublist a⟩
theorem Sr.set(h:Sr r now turn ps){k:Nat}(E:k<ps.length){p:AR}(G:p.Id=ps[k].Id)(y:p.A3=ps[k].A3)(H:p.Since=ps[k].Since)(B:EE r p now=true):Sr r now turn (ps.set k p):=by
 have hT:=(h.par _ (Aw E)).2;have g:∀i (hi:i<(ps.set k p).length),(ps.set k p)[i].Id=(ps[i]'(by simpa using hi)).Id/\(ps.set k p)[i].A3=(ps[i]'(by simpa using hi)).A3/\(ps.set k p)[i].Since=(ps[i]'(by simpa using hi)).Since:=by grind
 refine⟨by simpa using h.few,?_,?_,?_⟩;intro q e;rcases Cb e with e|rfl;exact h.par q e;exact⟨B,by rw[y];exact hT⟩;rw[Cq];intro i j hi c a;rw[(g i hi).1,(g j c).1];exact Cq.1 h.ids i j _ _ a;rw[Cq];intro i j hi c a;have:=Cq.1 h.turns i j (by simpa using hi) (by simpa using c) a;grind[Jb]
end
theorem AZd(a:0<=Gt h id):∃k,∃c:k<h.AG.length,Gt h id=(k:Int)/\par h id=h.AG[k]/\(par h id).Id=id/\h.AG.eraseP (λx=>x.Id==id)=h.AG.take k++h.AG.drop (k+1):=by grind[Gt,KT,par]
structure T3(r:Ad)(ps qs:List AR)(now:Int)(i:Nat)(c:Ak):Prop where
 row:c.Row=EF r ps i now
 Hk:c.B9=wOf (G7 ps i)
 total:c.AZ.Total=r.AZ.getD i 0
 held:c.AZ.FU=KI ps i
 KQ:c.AZ.Gm=Kn qs i
 led:Fi c.AZ=true
 room:Ds ps i<=r.Room
theorem T3.full(h:T3 r ps ps now i c):Xt r ps now i c:=⟨h.row,h.Hk,h.total,h.held,h.KQ,h.led,h.room⟩
theorem Xt.half(h:Xt r ps now i c):T3 r ps ps now i c:=⟨h.row,h.Hk,h.total,h.held,h.KQ,h.led,h.room⟩
theorem T3.perm{e:List AR}(h:T3 r ps qs now i c)(q:Uni ps)(g:ps.Perm a)(j:qs.Perm e):T3 r a e now i c:=
 ⟨by rw[h.row,ADv q g],by rw[h.Hk,XY g],h.total,by rw[h.held,AGc g],by rw[h.KQ,AHh j],h.led,by rw[<-UE g];exact h.room⟩
theorem Je{k:Int}(a:0<=k)(e:k<h.AI.length)(g:0<=j):cbn (C1 h k c) j=if j=k then c else cbn h j:=by grind[cbn,C1]
theorem AIE(hi:i<h.AI.length):cbn h i=h.AI[i]:=by unfold cbn;rw[Ah,BB,AU hi];rfl
theorem RH.cb(hR:RH h)(hi:i<h.AI.length):Xt h.AQ h.AG h.Now i (cbn h i):=by rw[AIE hi];exact hR.cab i hi
theorem RH.mk'(rules:EG h.AQ=true)(now:0<=h.Now/\h.Now<=1000000)(turn:1<=h.A3/\h.A3<=1000001)(EH:h.AI.length=h.AQ.AZ.length)(JJ:Sr h.AQ h.Now h.A3 h.AG)
 (cab:∀i:Nat,i<h.AI.length->Xt h.AQ h.AG h.Now i (cbn h i)) (todo:IS h.BM h.AI.length=true) (Gs:Km h.BI h.AI.length=true) (P7:(h.BI.length:Int)=h.AQ.Da):RH h:=
 ⟨rules,now,turn,EH,JJ,λi hi=>by rw[<-AIE hi];exact cab i hi,todo,Gs,P7⟩
structure One(h:AF)(id:Int)(p:AR)(rest:List AR):Prop where
 perm:h.AG.Perm (p::rest)
 sub:rest.Sublist h.AG
 okp:EE h.AQ p h.Now=true
 pid:p.Id=id
 mem:p∈h.AG
 ne:∀q∈rest,q.Id≠id
 set:∀q:AR,q.Id=id->∃l,Mm h.AG q=l/\l.Perm (q::rest)/\(q.A3=p.A3->q.Since=p.Since->EE h.AQ q h.Now=true->Sr h.AQ h.Now h.A3 l)
 cut:h.AG.eraseP (λx=>x.Id==id)=rest
theorem RH.one(hR:RH h)(G:0<=Gt h id):One h id (par h id) (h.AG.eraseP λx=>x.Id==id):=by
 have ⟨k,c,e,a,g,j⟩:=AZd G;have y:h.AG[k]∈h.AG:=Aw c;have B:h.AG.Perm (par h id::h.AG.eraseP λx=>x.Id==id):=by rw[a];exact AFG c j
 refine⟨B,Jx,by rw[a];exact(hR.JJ.par _ y).1,g,by rw[a];exact y,?_,?_,rfl⟩;have:=(hR.JJ.uni.perm B).id;grind[List.pairwise_cons];intro q E;refine⟨h.AG.set k q,?_,set_perm c j q,?_⟩;unfold Mm;unfold Gt at e;rw[E,e,ifP,Ah];intro H I J;refine hR.JJ.set c ?_ ?_ ?_ J;rw[<-a,g,E];rw[<-a,H];rw[<-a,I]
theorem One.size(ho:One h id p rest):(1<=p.BL/\p.BL<=6)/\(0<=p.Ab/\p.Ab<h.AQ.AZ.length)/\(-1<=p.Bs/\p.Bs<h.AQ.AZ.length)/\p.Bs≠p.Ab:=by have a:=Fc ho.okp;have c:=CU a.1;omega
def AOA(h:AF)(p:AR)(rest:List AR)(g:AF):Prop:=∀i:Nat,i<h.AI.length->T3 h.AQ rest (p::rest) h.Now i (cbn g i)
theorem tT(G:1<=p.BL/\p.BL<=6)(q:p.Ab≠i)(h:Xt r (p::rest) now i c):T3 r rest (p::rest) now i c:=by
 have y:Mn r i now p=none:=by grind[Mn]
 have B:OA i p=none:=by grind[OA]
 have E:Zb i p=0:=by unfold Zb;simp[q]
 have a:=h.row;have e:=h.Hk;have g:=h.held;have j:=h.room;rw[VO,y]at a;rw[XX,B]at e;rw[P3,E,Gy]at g;rw[I7,Aa q,Gy]at j;exact⟨a,e,h.total,g,h.KQ,h.led,j⟩
section
variable{h:AF}(hR:RH h){id:Int}{p:AR}{rest:List AR}(ho:One h id p rest)
include hR ho
theorem One.cab{i:Nat}(hi:i<h.AI.length):Xt h.AQ (p::rest) h.Now i (cbn h i):=((hR.cb hi).half.perm hR.JJ.uni ho.perm ho.perm).full
theorem One.uni:Uni (p::rest):=hR.JJ.uni.perm ho.perm
theorem One.room{i:Nat}(hi:i<h.AI.length):Ds (p::rest) i<=10:=by have:=(ho.cab hR hi).room;have:=CU hR.rules;omega
theorem One.pins{i:Nat}(hi:i<h.AI.length):RW (G7 (p::rest) i):=by rw[<-XY ho.perm];exact Z5 hR.JJ (by rw[UE ho.perm];exact ho.room hR hi)
theorem TS(q:p.State=2){a c:Int}(O:a=0/\c=1\/a=1/\c=0) :
 AOA h p rest (C1 h p.Ab ⟨(l8 (cbn h p.Ab).AZ p.BL a (-1) c 0).1,(cbn h p.Ab).Row,(WX (cbn h p.Ab).B9 ⟨p.DK,p.Id⟩).1⟩):=by
 intro i hi;have ⟨G,L,z3,z4⟩:=ho.size;have Q:=hR.EH;rw[Je L.1 (by omega) (by omega)];by_cases e:(i:Int)=p.Ab;rw[AY e,<-e];have g:=ho.cab hR hi;have j:=ho.pins hR hi;have y:=g.row;have B:=g.Hk;have I:=g.held;have J:=g.room;have E:=g.led;rw[Xa _ _ _ (by omega)]at y;rw[WB _ q,AY e.symm]at B j;rw[cJ _ q G,AY e.symm]at I;rw[I7,AY e.symm]at J;have H:=ADD rest i;have kl:=Gj.1 E;have hl:Fi ⟨(cbn h i).AZ.Total,(cbn h i).AZ.Et+a*p.BL,(cbn h i).AZ.FU+(-1)*p.BL,(cbn h i).AZ.Ge+c*p.BL,(cbn h i).AZ.Gm+0*p.BL⟩=true:=by grind[Gj]
 rw[s8 E (by omega) (by omega) (by omega) (by omega) (by omega) hl,B,AXl j];refine⟨y,rfl,g.total,?_,?_,hl,?_⟩;dsimp only;omega;dsimp only;rw[g.KQ];omega;omega;rw[Aa e];exact tT G (Ne.symm e) (ho.cab hR hi)
theorem AHk(E:p.State=1):AOA h p rest (Va h p.Ab id):=by intro i hi;have ⟨I,J,z3,z4⟩:=ho.size;have L:=hR.EH;unfold Va;rw[Je J.1 (by omega) (by omega)];by_cases e:(i:Int)=p.Ab;rw[AY e,<-e];have a:=ho.cab hR hi;have c:=a.row;have g:=a.Hk;have j:=a.held;have H:=a.room;rw[Lh _ ho.okp E,AY e.symm]at c;rw[PS _ (by omega)]at g;rw[PM _ (by omega)]at j;rw[I7,AY e.symm]at H;refine⟨?_,g,a.total,j,a.KQ,a.led,by omega⟩;rw[c];refine R7 (by simpa using ho.pid) λx G=>?_;have ⟨q,B,y⟩:=QC G;obtain⟨rfl,_⟩:=KY y;simpa using ho.ne q B;rw[Aa e];exact tT I (Ne.symm e) (ho.cab hR hi)
theorem gX{g:AF}(L:AOA h p rest g)(c:g.AQ=h.AQ)(B:g.Now=h.Now)(G:g.A3=h.A3)(S:g.AG=h.AG)(j:g.AI.length=h.AI.length)
 (J:IS g.BM h.AI.length=true) (H:g.BI=h.BI):RH (gone g p):=by
 have ⟨Q,Y,z3,z4⟩:=ho.size;have O:=hR.EH;have E:g.AG.eraseP (λx=>x.Id==p.Id)=rest:=by rw[S,ho.pid,ho.cut]
 have q:Sr h.AQ h.Now h.A3 rest:=hR.JJ.sub ho.sub;unfold gone;rw[E];split;rename_i I;refine RH.mk' (by show EG g.AQ=true;rw[c];exact hR.rules) (by show 0<=g.Now/\_;rw[B];exact hR.now) (by show 1<=g.A3/\_;rw[G];exact hR.turn) (by simp[C1,j,c,O]) (by show Sr g.AQ g.Now g.A3 rest;rw[c,B,G];exact q) ?_
  (by simpa[C1,j] using J) (by simpa[C1,j,H] using hR.Gs) (by show (g.BI.length:Int)=g.AQ.Da;rw[H,c];exact hR.P7)
 intro i hi;have y:i<h.AI.length:=by simpa[C1,j] using hi
 rw[Je I (by show p.Bs<(g.AI.length:Int);omega) (by omega)];show Xt g.AQ rest g.Now i _;rw[c,B];have a:=L i y;have k:=a.KQ;rw[Ja _ Q]at k;by_cases e:(i:Int)=p.Bs;rw[AY e,<-e];rw[AY e.symm]at k;have kl:=Gj.1 a.led;have X:=AEg rest i;have hl:Fi ⟨(cbn g i).AZ.Total,(cbn g i).AZ.Et+0*p.BL,(cbn g i).AZ.FU+0*p.BL,(cbn g i).AZ.Ge+0*p.BL,(cbn g i).AZ.Gm+(-1)*p.BL⟩=true:=by rw[Gj];dsimp only;omega
 rw[s8 a.led (by omega) (by omega) (by omega) (by omega) (by omega) hl];refine⟨a.row,a.Hk,a.total,?_,?_,hl,a.room⟩;dsimp only;rw[a.held];omega;dsimp only;omega;rw[Aa e];rw[Aa (Ne.symm e),Gy]at k;exact⟨a.row,a.Hk,a.total,a.held,k,a.led,a.room⟩;rename_i I;refine RH.mk' (by show EG g.AQ=true;rw[c];exact hR.rules) (by show 0<=g.Now/\_;rw[B];exact hR.now) (by show 1<=g.A3/\_;rw[G];exact hR.turn) (by show g.AI.length=g.AQ.AZ.length;rw[j,c,O]) (by show Sr g.AQ g.Now g.A3 rest;rw[c,B,G];exact q) ?_
  (by show IS g.BM g.AI.length=true;rw[j];exact J) (by show Km g.BI g.AI.length=true;rw[j,H];exact hR.Gs) (by show (g.BI.length:Int)=g.AQ.Da;rw[H,c];exact hR.P7)
 intro i hi;have y:i<h.AI.length:=by rw[<-j];exact hi
 show Xt g.AQ rest g.Now i (cbn g i);rw[c,B];have a:=L i y;have k:=a.KQ;rw[Ja _ Q,ifN,Gy]at k;exact⟨a.row,a.Hk,a.total,a.held,k,a.led,a.room⟩
theorem ZU(hs:p.State=2):RH (Jg h p):=by
 have ⟨Q,z2,z3,z4⟩:=ho.size;have Z:=hR.EH;have L:AOA h p rest (dropped h p):=TS hR ho hs (.inr ⟨rfl,rfl⟩);have c:(dropped h p).AI.length=h.AI.length:=by simp[dropped,C1]
 unfold Jg;split;rename_i Y;have j:=Y;unfold FN at j;by_cases E:EE h.AQ p h.Now=true/\p.State=2/\w64 (p.De+1)<h.AQ.Cr;have hk:=Fc ho.okp;have hr:=CU hR.rules;have hq:(FN h.AQ p h.Now).1={p with State:=1,DK:=w64 (h.Now+h.AQ.Rest),De:=w64 (p.De+1)}:=by unfold FN;rw[AY E]
 rw[hq];have ew:w64 (h.Now+h.AQ.Rest)=h.Now+h.AQ.Rest:=A6 (by omega) (by omega);have ea:w64 (p.De+1)=p.De+1:=A6 (by omega) (by omega);rw[ew,ea];have G:=E.2.2;rw[ea]at G;have g:EE h.AQ {p with State:=1,DK:=h.Now+h.AQ.Rest,De:=p.De+1} h.Now=true:=by grind[EE,B6,A6]
 have ⟨l,S,B,X⟩:=ho.set {p with State:=1,DK:=h.Now+h.AQ.Rest,De:=p.De+1} ho.pid;rw[S];have J:=X rfl rfl g;generalize hQ:({p with State:=1,DK:=h.Now+h.AQ.Rest,De:=p.De+1}:AR)=q at *;have q1:q.Ab=p.Ab:=by rw[<-hQ]
 have q2:q.Bs=p.Bs:=by rw[<-hQ]
 have O:q.BL=p.BL:=by rw[<-hQ]
 have H:q.State=1:=by rw[<-hQ]
 unfold Hv;refine RH.mk' hR.rules hR.now hR.turn (by show ((dropped h p).AI.set _ _).length=_;rw[An,c];exact Z) J ?_ (by show IS h.BM (((dropped h p).AI.set _ _).length:Nat)=true;rw[An,c];exact hR.todo) (by show Km h.BI (((dropped h p).AI.set _ _).length:Nat)=true;rw[An,c];exact hR.Gs) hR.P7;intro i hi;have y:i<h.AI.length:=by have:i<((dropped h p).AI.set q.Ab.toNat _).length:=hi;rw[An,c]at this;exact this
 rw[Je (by rw[q1];exact z2.1) (by rw[q1];show p.Ab<((dropped h p).AI.length:Int);omega) (by omega)];show Xt h.AQ l h.Now i (if _ then (⟨(cbn (dropped h p) q.Ab).AZ,put ltE (Fh h.AQ q h.Now).1 (cbn (dropped h p) q.Ab).Row,(cbn (dropped h p) q.Ab).B9⟩:Ak) else cbn (dropped h p) i);have a:=L i y;have hu:=J.uni;have t1:Kn (p::rest) i=Kn (q::rest) i:=by rw[Ja _ Q,Ja _ (by rw[O];exact Q),q2,O]
 have I:Ds (q::rest) i<=h.AQ.Room:=by have:=(ho.cab hR y).room;rw[I7]at this ⊢;rw[q1];exact this
 refine T3.full (T3.perm ?_ (hu.perm B) B.symm B.symm);by_cases e:(i:Int)=q.Ab;rw[AY e,<-e];refine⟨?_,?_,a.total,?_,by rw[a.KQ,t1],a.led,I⟩;dsimp only;rw[Lh _ g H,AY e.symm,S8 g H,a.row];dsimp only;rw[PS _ (by omega),a.Hk];dsimp only;rw[PM _ (by omega),a.held];rw[Aa e];refine⟨?_,?_,a.total,?_,by rw[a.KQ,t1],a.led,I⟩;rw[Lh _ g H,Aa (Ne.symm e),a.row];rw[PS _ (by omega),a.Hk];rw[PM _ (by omega),a.held];rw[Aa E]at j;cases j;exact gX hR ho L rfl rfl rfl rfl c hR.todo rfl
end
def th(p:AR)(now:Int):Bool:=p.State==1&&decide (p.DK>now)
def oU(h:AF):List Int:=h.AG.filterMap λp=>if th p h.Now=true then some p.Id else none
def ACz(free:Int)(skip:List Int)(e:Ar):Bool:=decide (e.BL<=free)&&!(skip.any λy=>y==e.Id)
def Wo(h:AF)(k:Int):Int:=atF (ACz (cbn h k).AZ.Et (oU h)) (cbn h k).Row 0
def AWe:Ar:=⟨0,0,0,0⟩
def Fa(h:AF)(k:Int):Int:=if Wo h k<0 then 0 else ((cbn h k).Row.getD (Wo h k).toNat AWe).Id
theorem aV(p:AR)(now:Int):rq p now=some (th p now):=by unfold rq Au th;rw[AW,AW,DE]
theorem py{l:List Ar}(hl:l.length<=1048576){skip:List Int}(c:skip.length<=1048576)(free:Int):AJK l free skip=some (atF (ACz free skip) l 0):=by unfold AJK;refine Su (by omega) ?_ ?_;intro L i h;unfold kj kh ACz;rw[bnT h];simp only[BT h,AB,Ti (show skip.length<2 ^ 62 by omega),AW];by_cases a:l[i].BL<=free;simp only[a,decide_true,CB,Bool.true_and];simp only[a,decide_false,CI,Bool.false_and];grind[kj,HH,CI,AW]
theorem ui{l:List Ar}{p:Ar->Bool}(a:¬atF p l 0<0):at? l (atF p l 0)=some (l.getD (atF p l 0).toNat AWe)/\∃c:(atF p l 0).toNat<l.length,p l[(atF p l 0).toNat]=true/\l.getD (atF p l 0).toNat AWe=l[(atF p l 0).toNat]:=by grind[KT,BT]
theorem zx(a:Bt h){k:Int}(e:0<=k)(g:k<h.AI.length):ACF h k=some (Fa h k):=by have hlim:=Gk;have c:=a.Cc;have q:(oU h).length<=1048576:=Ax (B8 _ _) c;have j:=(a.EX _ (W5 e g)).1;unfold ACF;rw[collect (l:=h.AG) (λp=>if th p h.Now=true then some p.Id else none) (kU h k) c ?_ ?_];grind[kU,cbn,Gq,AB,oU,py,Wo,Fa,BV,ui];grind[kV,Ru,BT,AB,aV,Be,AW,D2];grind[kV,CI,AW]
def AZW(h:AF)(p:AR):AR:={p with State:=2,DK:=w64 (h.Now+h.AQ.CD)}
def Jl(h:AF)(k id:Int):AF:=
 C1 (QT h (Mm h.AG (AZW h (par h id)))) k ⟨(l8 (cbn h k).AZ (par h id).BL (-1) 1 0 0).1,(cbn h k).Row.eraseP (λx=>x.Id==id),(PF (cbn h k).B9 ⟨w64 (h.Now+h.AQ.CD),id⟩).1⟩
theorem nS(hR:RH h)(L:k<h.AI.length)(c:Fa h k≠0):0<=Gt h (Fa h k)/\(par h (Fa h k)).State=1/\(par h (Fa h k)).Ab=k/\(par h (Fa h k)).BL<=(cbn h k).AZ.Et/\th (par h (Fa h k)) h.Now=false:=by
 unfold Fa at c ⊢;by_cases g:Wo h k<0;rw[AY g]at c;exact absurd rfl c;rw[Aa g]at c ⊢;have ⟨_,hl,G,H⟩:=ui g;have I:=hR.cb L;have j:(cbn h k).Row.getD (Wo h k).toNat AWe=(cbn h k).Row[(Wo h k).toNat]'hl:=H;rw[j];have O:(cbn h k).Row[(Wo h k).toNat]'hl∈EF h.AQ h.AG k h.Now:=by rw[<-I.row];exact Aw _
 have ⟨p,Q,J⟩:=QC O;have ⟨E,S,X,Y⟩:=KY J;have a:ACz (cbn h k).AZ.Et (oU h) ((cbn h k).Row[(Wo h k).toNat]'hl)=true:=G;unfold ACz at a;rw[AD,decide_eq_true_iff]at a;generalize (cbn h k).Row[(Wo h k).toNat]'hl=e at *;subst E;have y:0<=Gt h p.Id:=by grind[Gt,KT]
 have ho:=hR.one y;have B:par h p.Id=p:=by rcases Ae.1 (ho.perm.subset Q) with q|q;exact q.symm;exact absurd rfl (ho.ne p q)
 rw[B];grind[oU]
theorem AG2(hR:RH h)(hk:k<h.AI.length)(ho:One h id (par h id) rest)(hs:(par h id).State=1)(g:(par h id).Ab=k)(hf:(par h id).BL<=(cbn h k).AZ.Et):RH (Jl h k id):=by
 have ⟨H,z2,z3,z4⟩:=ho.size;have hn:=hR.EH;have hr:=CU hR.rules;have X:=hR.now;have ew:w64 (h.Now+h.AQ.CD)=h.Now+h.AQ.CD:=A6 (by omega) (by omega);unfold Jl;generalize hP:par h id=p at *;have hq:AZW h p={p with State:=2,DK:=h.Now+h.AQ.CD}:=by unfold AZW;rw[ew]
 rw[hq,ew];have O:EE h.AQ {p with State:=2,DK:=h.Now+h.AQ.CD} h.Now=true:=by have:=ho.okp;grind[EE,B6]
 have ⟨l,Z,c,e3⟩:=ho.set {p with State:=2,DK:=h.Now+h.AQ.CD} ho.pid;rw[Z];have J:=e3 rfl rfl O;have q5:(⟨h.Now+h.AQ.CD,id⟩:Bf)=⟨({p with State:=2,DK:=h.Now+h.AQ.CD}:AR).DK,({p with State:=2,DK:=h.Now+h.AQ.CD}:AR).Id⟩:=by rw[<-ho.pid]
 rw[q5];generalize hQ:({p with State:=2,DK:=h.Now+h.AQ.CD}:AR)=q at *;have q1:q.Ab=p.Ab:=by rw[<-hQ]
 have q2:q.Bs=p.Bs:=by rw[<-hQ]
 have B:q.BL=p.BL:=by rw[<-hQ]
 have E:q.State=2:=by rw[<-hQ]
 have hu:=J.uni;refine RH.mk' hR.rules hR.now hR.turn (by show (h.AI.set _ _).length=_;rw[An];exact hn) J ?_ (by show IS h.BM ((h.AI.set _ _).length:Nat)=true;rw[An];exact hR.todo) (by show Km h.BI ((h.AI.set _ _).length:Nat)=true;rw[An];exact hR.Gs) hR.P7;intro i hi;have L:i<h.AI.length:=by have:i<(h.AI.set (k:Int).toNat _).length:=hi;rw[An]at this;exact this
 rw[Je (by omega) (by show (k:Int)<(h.AI.length:Int);omega) (by omega)];show Xt h.AQ l h.Now i (if (i:Int)=k then (⟨_,_,_⟩:Ak) else cbn h i);have a:=ho.cab hR L;have t1:Kn (p::rest) i=Kn (q::rest) i:=by rw[Ja _ H,Ja _ (by rw[B];exact H),q2,B]
 have S:Ds (q::rest) i<=h.AQ.Room:=by have:=a.room;rw[I7]at this ⊢;rw[q1];exact this
 refine T3.full (T3.perm ?_ (hu.perm c) c.symm c.symm);have G:=a.row;have Q:=a.Hk;have Y:=a.held;rw[Lh _ ho.okp hs]at G;rw[PS _ (by omega)]at Q;rw[PM _ (by omega)]at Y;by_cases e:(i:Int)=k;obtain rfl:i=k:=by omega
 rw[AY rfl];have j:RW (G7 (q::rest) (i:Int)):=by rw[<-XY c];exact Z5 J (by rw[UE c];omega)
 rw[WB _ E,AY (by rw[q1,g])]at j;have kl:=Gj.1 a.led;have hnn:=ADD rest i;have hl:Fi ⟨(cbn h i).AZ.Total,(cbn h i).AZ.Et+(-1)*p.BL,(cbn h i).AZ.FU+1*p.BL,(cbn h i).AZ.Ge+0*p.BL,(cbn h i).AZ.Gm+0*p.BL⟩=true:=by rw[Gj];dsimp only;omega
 rw[s8 a.led (by omega) (by omega) (by omega) (by omega) (by omega) hl,Q,AXm j];refine⟨?_,?_,a.total,?_,?_,hl,S⟩;dsimp only;rw[G,AY g,Xa _ _ _ (by omega)];refine R7 (by simpa using ho.pid) λx hx=>?_;have ⟨y,hy,he⟩:=QC hx;obtain⟨rfl,_⟩:=KY he;simpa using ho.ne y hy;dsimp only;rw[WB _ E,AY (by rw[q1,g])];dsimp only;rw[cJ _ E (by rw[B];exact H),AY (by rw[q1,g]),B];omega;dsimp only;rw[a.KQ,t1];omega;rw[Aa e];have I:¬q.Ab=i:=by rw[q1,g];omega
 rw[Aa (by rw[<-q1];exact I)]at G;refine⟨by rw[G,Xa _ _ _ (by omega)],by rw[Q,WB _ E,Aa I],a.total,by rw[Y,cJ _ E (by rw[B];exact H),Aa I];omega,by rw[a.KQ,t1],a.led,S⟩
theorem RH.sm(hR:RH h):Sm 1000 h:=by have G:=CU hR.rules;have E:=hR.EH;have B:=hR.P7;refine⟨by omega,by have:=hR.JJ.few;omega,by omega,?_,by have:=AVm (by omega) hR.todo;omega,by omega⟩;intro c e;obtain⟨i,hi,rfl⟩:=DF.1 e;have a:=hR.cab i hi;have j:=a.room;have y:=Tb h.AQ h.AG i h.Now;have g:=Z5 hR.JJ (c:=i) (by omega);have q:=pR g;refine⟨by rw[a.row];omega,by rw[a.Hk,gy];omega,by rw[a.Hk];have:=q.few;omega⟩
theorem RH.fit(hR:RH h):Bt h:=hR.sm.fit (by omega)
theorem RH.yc(hR:RH h){q:AR}(e:q∈h.AG):0<=Gt h q.Id/\par h q.Id=q:=by
 have a:0<=Gt h q.Id:=by grind[Gt,KT]
 have ho:=hR.one a;refine⟨a,?_⟩;rcases Ae.1 (ho.perm.subset e) with c|c;exact c.symm;exact absurd rfl (ho.ne q c)
structure Kept(h g:AF):Prop where
 rules:g.AQ=h.AQ
 now:g.Now=h.Now
 turn:g.A3=h.A3
 EH:g.AI.length=h.AI.length
 todo:g.BM=h.BM
 Gs:g.BI=h.BI
theorem Kept.refl(h:AF):Kept h h:=⟨rfl,rfl,rfl,rfl,rfl,rfl⟩
theorem Kept.trans{a b c:AF}(h:Kept a b)(g:Kept b c):Kept a c:=⟨g.rules.trans h.rules,g.now.trans h.now,g.turn.trans h.turn,g.EH.trans h.EH,g.todo.trans h.todo,g.Gs.trans h.Gs⟩
theorem bw(h:AF)(p:AR):Kept h (gone h p):=by unfold gone;split;exact⟨rfl,rfl,rfl,by simp[C1],rfl,rfl⟩;exact⟨rfl,rfl,rfl,rfl,rfl,rfl⟩
theorem vj(h:AF)(p:AR):Kept h (dropped h p):=⟨rfl,rfl,rfl,by simp[dropped,C1],rfl,rfl⟩
theorem TB(h:AF)(p:AR):Kept h (Jg h p):=by unfold Jg;split;exact⟨rfl,rfl,rfl,by simp[Hv,QT,dropped,C1],rfl,rfl⟩;exact(vj h p).trans (bw _ _)
theorem TT(h:AF)(k id:Int):Kept h (Jl h k id):=⟨rfl,rfl,rfl,by simp[Jl,QT,C1],rfl,rfl⟩
theorem ALp(ho:One h id p rest){q:AR}(c:q∈rest):q∈(Jg h p).AG:=by
 unfold Jg;split;rename_i a;have e:(FN h.AQ p h.Now).1.Id=id:=by unfold FN at a ⊢;split at a;rename_i g;rw[AY g];exact ho.pid;cases a
 have ⟨l,j,y,_⟩:=ho.set _ e;show q∈Mm h.AG (FN h.AQ p h.Now).1;grind;have:(gone (dropped h p) p).AG=rest:=by rw[<-ho.cut,<-ho.pid];unfold gone;split<;>rfl
 rw[this];exact c
def Vx:List Int->AF->AF| [],g=>g|id::l,g=>Vx l (Jg g (par g id))
def ALM(g:AF)(l:List Int):Prop:=l.Nodup/\∀id∈l,0<=Gt g id/\(par g id).State=2
theorem XC(hR:RH g)(hO:ALM g (id::l)):RH (Jg g (par g id))/\ALM (Jg g (par g id)) l/\Kept g (Jg g (par g id)):=by
 have ⟨c,B⟩:=hO;rw[List.nodup_cons]at c;have ⟨G,H⟩:=B id (BQ ..);have ho:=hR.one G;have hR':=ZU hR ho H;refine⟨hR',⟨c.2,?_⟩,TB _ _⟩;intro j E;have ⟨I,L⟩:=B j (Am _ E);have y:j≠id:=λe=>c.1 (e▸E);have a:=hR.one I;have J:par g j∈g.AG.eraseP (λx=>x.Id==id):=by rcases Ae.1 (ho.perm.subset a.mem) with q|q;exact absurd (by rw[<-a.pid,<-ho.pid,q]) y;exact q
 have:=hR'.yc (ALp ho J);rw[a.pid]at this;grind
theorem S9:∀{l:List Int} {g:AF},RH g->ALM g l->RH (Vx l g)/\Kept g (Vx l g)
 | [],g,hR,_=>⟨hR,Kept.refl g⟩|id::l,g,hR,hO=>by have ⟨a,c,e⟩:=XC hR hO;have ⟨j,q⟩:=S9 a c;exact⟨j,e.trans q⟩
def ZT(h:AF)(k:Int):AF:=Vx (mF (cbn h k).B9 h.Now) h
theorem Un(hR:RH h)(I:k<h.AI.length):ALM h (mF (cbn h k).B9 h.Now)/\(mF (cbn h k).B9 h.Now).length<=10:=by
 have E:=hR.cb I;have X:=CU hR.rules;have q:=Z5 hR.JJ (c:=k) (by have:=E.room;omega);have e:mF (cbn h k).B9 h.Now=(G7 h.AG k).filterMap λp=>if p.At<=h.Now then some p.Id else none:=by unfold mF;rw[E.Hk,AEr q]
 rw[e];refine⟨⟨?_,?_⟩,Ax (B8 _ _) q.few⟩;show List.Pairwise _ _;rw[E0];refine q.ids.imp ?_;intro a b L x g y Q;split at g<;>split at Q<;>simp_all;intro id j;have ⟨pin,J,g⟩:=List.mem_filterMap.1 j;split at g;have ⟨p,B,O⟩:=tM J;obtain⟨rfl,S,_⟩:=WC O;cases g;have ⟨G,H⟩:=hR.yc B;exact⟨G,by rw[H];exact S⟩;cases g
theorem AZe(hR:RH h)(a:0<=Gt h id):0<=(par h id).Ab/\(par h id).Ab<h.AI.length/\(par h id).Bs<h.AI.length:=by have:=(hR.one a).size;have:=hR.EH;omega
theorem Sv(a:0<=Gt h id):at? h.AG (Gt h id)=some (par h id):=ax a (TY a).1
theorem o6(hR:RH h)(q:k<h.AI.length):AJJ h k=some (ZT h k):=by
 have ⟨hO,hl⟩:=Un hR q;unfold AJJ ZT;rw[AEY hR.fit (by omega) (by omega),AB];generalize mF (cbn h k).B9 h.Now=D at *;refine(Dl (F:=kg D) (n:=D.length) (λi (v:AF)=>((i:Int),v)) (λi v=>RH v/\ALM v (D.drop i)) (λi v=>some (Vx (D.drop i) v)) (by omega) ?_ (v:=h) ⟨hR,hO⟩);rintro L i v ⟨e,ho⟩ hi y;unfold kg Gg be;dsimp only;rcases AV i D.length with a|j;rw[D4 a]at ho ⊢;have g:=ho.2 D[i] (BQ ..);have c:=AZe e g.1;have ⟨s1,B,_⟩:=XC e ho;simp only[S6 a,CB,BT a,AB,IB e.fit,Sv g.1,Ww (show 1000+2<=1048576 by omega) e.sm c.1 c.2.1 c.2.2,Bh a (show D.length<2 ^ 63 by omega)];exact y _ ⟨s1,B⟩ a;obtain rfl:i=D.length:=by omega
 rw[bnJ,Cx];rfl
theorem ADh(hR:RH h)(e:k<h.AI.length)(ho:One h id (par h id) rest)(g:(par h id).State=1)(a:(par h id).Ab=k):(cbn (Jl h k id) k).Row.length+1=(cbn h k).Row.length:=by unfold Jl;rw[Je (by omega) (by show (k:Int)<(h.AI.length:Int);omega) (by omega),AY rfl];have:=(ho.cab hR e).row;rw[Lh _ ho.okp g,AY a]at this;rw[this,R7 (by simpa using ho.pid) λx j=>?_,GU];have ⟨y,q,c⟩:=QC j;obtain⟨rfl,_⟩:=KY c;simpa using ho.ne y q
theorem qC(hR:RH h)(g:k<h.AI.length):AI2 h k=some (if Fa h k=0 then (h,0) else (Jl h k (Fa h k),Fa h k))/\(Fa h k=0->AI3 h k=some ((),0)):=by have a:=hR.fit;unfold AI2 AI3 be;rw[zx a (by omega) (by omega),AB,AB,Be,Be];by_cases c:Fa h k=0;grind;refine⟨?_,λh=>absurd h c⟩;have ⟨j,q,y,B,E⟩:=nS hR g c;have e:=a.EX _ (W5 (k:=(k:Int)) (by omega) (by omega));rw[Aa (by simpa using c),Aa c];simp only[IB a,AB,Sv j,FP,RS a.Cc,show at? h.AI (k:Int)=some (cbn h k) from Gq (by omega) (by omega),oh,Wt e.1,Nf e.2];rfl
def QI(k:Int):Nat->AF->List Int->AF×List Int|0,h,a=>(h,a)|n+1,h,a=>if Fa h k=0 then (h,a) else QI k n (Jl h k (Fa h k)) (a++[Fa h k])
theorem AK2{k:Int}(c:Fa h k=0)(a:List Int):∀n,QI k n h a=(h,a)|0=>rfl|n+1=>by unfold QI;rw[AY c]
theorem XT(hR:RH h)(a:k<h.AI.length)(j:Fa h k≠0):RH (Jl h k (Fa h k))/\(cbn (Jl h k (Fa h k)) k).Row.length+1=(cbn h k).Row.length:=by have ⟨c,e,g,q,y⟩:=nS hR a j;exact⟨AG2 hR a (hR.one c) e g q,ADh hR a (hR.one c) e g⟩
theorem AEG{k:Nat}:∀(n:Nat) {h:AF} (a:List Int),RH h->k<h.AI.length->RH (QI k n h a).1/\Kept h (QI k n h a).1/\(QI k n h a).2.length<=a.length+n
 |0,h,a,hR,_=>⟨hR,Kept.refl h,by unfold QI;simp⟩|n+1,h,a,hR,e=>by unfold QI;split;exact⟨hR,Kept.refl h,by simp⟩;rename_i B;have y:=XT hR e B;have c:=TT h k (Fa h k);obtain⟨g,j,q⟩:=AEG n (a++[Fa h k]) y.1 (by rw[c.EH];exact e);refine⟨g,c.trans j,?_⟩;rw[AH,List.length_singleton]at q;omega
def LV(h:AF)(k:Int):AF×List Int:=QI k 10 (ZT h k) []
theorem gx(hR:RH h)(c:k<h.AI.length):(cbn h k).Row.length<=10:=by have a:=hR.cb c;have j:=CU hR.rules;have e:=Tb h.AQ h.AG k h.Now;have g:=a.room;rw[a.row];omega
theorem ADd{k:Int}(a:Fa h k≠0):0<(cbn h k).Row.length:=by unfold Fa at a;split at a;exact absurd rfl a;rename_i c;have ⟨_,hl,_⟩:=ui c;omega
theorem AVC(hR:RH h)(y:k<h.AI.length):BK (Y3 k) big ([],h)=some (QI k 10 h []):=by
 refine cY (F:=Y3 k) (λx=>some (QI k (10-x.1.length) x.2 x.1)) (λx=>RH x.2/\k<x.2.AI.length/\x.1.length+(cbn x.2 k).Row.length<=10) (λx=>(cbn x.2 k).Row.length) ?_ (x:=([],h)) ⟨hR,y,by have:=gx hR y;simpa using this⟩ (by have:=gx hR y;show (cbn h k).Row.length<_;omega);rintro L ⟨a,g⟩ ⟨q,c,e⟩ E;dsimp only at q c e E ⊢;unfold Y3;dsimp only;have ⟨H,I⟩:=qC q c;rw[H,AB];by_cases j:Fa g k=0;grind[AB,AK2,CB,AYI];have ⟨s1,J⟩:=XT q c j;have B:=ADd j;rw[Aa j];have G:(Fa g k==0)=false:=by simpa using j
 rw[G,CI,DX,E (a++[Fa g k],Jl g k (Fa g k)) ⟨s1,by rw[(TT g k _).EH];exact c,by simp only[AH,AK,AT];omega⟩ (by dsimp only;omega),AYJ];congr 1;rw[show 10-a.length=(10-(a++[Fa g k]).length)+1 by simp only[AH,AK,AT];omega]
 conv=>rhs;unfold QI
 rw[Aa j]
theorem Xe(hR:RH h)(c:k<h.AI.length):RH (LV h k).1/\Kept h (LV h k).1/\(LV h k).2.length<=10:=by have ⟨g,a⟩:=S9 hR (Un hR c).1;have ⟨s1,j,e⟩:=AEG (k:=k) 10 [] g (by rw[a.EH];exact c);exact⟨s1,a.trans j,by simp only[AT,Nat.zero_add]at e;exact e⟩
theorem ANw(hR:RH h)(c:k<h.AI.length):AI4 h k=some (LV h k):=by have a:=hR.fit;have j:=a.EH;have ⟨e,g⟩:=S9 hR (Un hR c).1;unfold AI4 AO1 Au;rw[Im a,AB,GV a,GH.2 hR,AB,CB,Db,AB,AW,AB,A6,B6.2 (by omega),BW,CB,o6 hR c,AB];exact AVC e (Nat.lt_of_lt_of_eq c g.EH.symm)
theorem HR(a:verdict h q=0):RH h:=by grind[verdict,GH]
theorem Tp(B:q.Kind=7)(a:verdict h q=0):∃n:Nat,∃e:n<h.BI.length,q.Id=(n:Int)/\¬(h.BI[n]<0/\h.BM.length=0):=by
 have hR:=HR a;unfold verdict at a;rw[AY (GH.2 hR)]at a;unfold Is at a;split at a;cases a;split at a;cases a;rename_i j;have c:LD q=true:=by simpa using j
 have hi:0<=q.Id:=by unfold LD at c;rw[ifN,ifP]at c;simp only[AD,Up,B6]at c;exact c.1.1
 rw[ifN,ifN,ifN,ifN,ifN]at a;try rw[AY B]at a
 by_cases g:h.AQ.Da<=q.Id;rw[AY g]at a;cases a;rw[Aa g]at a;have ⟨n,e⟩:=AX hi;have hl:n<h.BI.length:=by have:=hR.P7;omega
 refine⟨n,hl,e,?_⟩;rw[e,Ah,BB,AU hl,DN]at a;intro y;rw[AY y]at a;cases a
def Sn(h:AF)(l:List Int):AF:={h with BI:=l}
def XW(h:AF)(who:Int):AF×List Int:=
 if h.BI.getD who.toNat 0<0 then (Sn (Ey h (h.BM.drop 1)) (h.BI.set who.toNat (h.BM.getD 0 0)),[])
 else (Sn (LV h (h.BI.getD who.toNat 0)).1 ((LV h (h.BI.getD who.toNat 0)).1.BI.set who.toNat (-1)),(LV h (h.BI.getD who.toNat 0)).2)
def Wq(h:AF)(who:Int):AF×Int×List Int:=
 if verdict h ⟨7,who,0,0,0,0⟩≠0 then (h,verdict h ⟨7,who,0,0,0,0⟩,[]) else ((XW h who).1,0,(XW h who).2)
theorem RH.job(hR:RH h)(a:n<h.BI.length)(c:¬h.BI[n]<0):∃k:Nat,k<h.AI.length/\h.BI[n]=(k:Int):=by have:=B2.1 hR.Gs _ (Aw a);have e:=hR.fit.EH;grind[B6,A6,Int.eq_ofNat_of_zero_le]
theorem ANv(c:Bt h)(who:Int):AI5 h who=some (Wq h who)/\Bt (Wq h who).1/\(Wq h who).2.2.length<=10:=by
 have hlim:=Gk;unfold AI5 Wq be;rw[Im c,AB,IC c,AB];simp only[Be,bne_iff_ne,ne_eq];by_cases q:verdict h ⟨7,who,0,0,0,0⟩=0;rw[Aa (not_not_intro q),Aa (not_not_intro q)];have hR:=HR q;have ⟨n,j,e,E⟩:=Tp rfl q;dsimp only at e;subst e;have eg:h.BI.getD n 0=h.BI[n]:=by rw[BB,AU j];rfl
 unfold XW;rw[BT j,AB,Ah,eg];simp only[decide_eq_true_eq];by_cases g:h.BI[n]<0;rw[AY g,AY g];have I:0<h.BM.length:=by rcases Nat.eq_zero_or_pos h.BM.length with y|y;exact absurd ⟨g,y⟩ E;exact y
 have J:h.BM.getD 0 0=h.BM[0]:=by rw[BB,AU I];rfl
 have G:=c.todo;have L:(List.drop (Int.toNat 1) h.BM).length<=h.BM.length:=by rw[BD];omega
 rw[YE,AU I,AB,AB,AB,D2 ⟨by omega,by omega⟩,DX,J];exact⟨rfl,⟨c.EI,c.Cc,c.EH,c.EX,Ax L G,by show (h.BI.set _ _).length<=_;rw[An];exact c.Gs⟩,by simp⟩;rw[Aa g,Aa g];have ⟨k,H,ek⟩:=hR.job j g;have ⟨s1,O,Q⟩:=Xe hR H;rw[ek,ANw hR H,AB];have B:n<(LV h k).1.BI.length:=by rw[O.Gs];exact j
 rw[BT B,AB,AB];have a:=s1.fit;exact⟨rfl,⟨a.EI,a.Cc,a.EH,a.EX,a.todo,by show ((LV h k).1.BI.set _ _).length<=_;rw[An];exact a.Gs⟩,Q⟩;grind
def doF(h:AF)(q:Bo):AF×Ck:=
 if verdict h q≠0 then (h,⟨verdict h q,[]⟩)
 else if q.Kind=1 then ((eu h q.Id q.Ab q.Bs q.BL q.DH).1,⟨(eu h q.Id q.Ab q.Bs q.BL q.DH).2,[]⟩)
 else if q.Kind=2 then ((Qe h q.Id).1,⟨(Qe h q.Id).2,[]⟩)
 else if q.Kind=3 then ((eO h q.Ab q.BL).1,⟨(eO h q.Ab q.BL).2,[]⟩)
 else if q.Kind=4 then ((QY h q.Id).1,⟨(QY h q.Id).2,[]⟩)
 else if q.Kind=5 then ((N3 h q.Id).1,⟨(N3 h q.Id).2,[]⟩)
 else if q.Kind=6 then ((fS h).1,⟨(fS h).2,[]⟩)
 else ((Wq h q.Id).1,⟨(Wq h q.Id).2.1,(Wq h q.Id).2.2⟩)
theorem zk(E:Bt h)(q:Bo):eF h q=some (doF h q)/\Bt (doF h q).1/\(doF h q).2.Ids.length<=10:=by unfold eF doF Nt;rw[Im E,AB,IC E,AB];simp only[Be,bne_iff_ne,ne_eq,beq_iff_eq,AW];by_cases G:verdict h q=0;have hR:=HR G;have a:=hR.sm;have H:=hR.EH;have I:=CU hR.rules;rw[Aa (not_not_intro G),Aa (not_not_intro G)];by_cases c:q.Kind=1;rw[AY c,AY c];have:=ANt (show 1000+3<=1048576 by omega) a q.Id q.Ab q.Bs q.BL q.DH;rw[this.1,AB];exact⟨rfl,this.2.fit (by omega),by simp⟩;rw[Aa c,Aa c];by_cases e:q.Kind=2;rw[AY e,AY e];have:=AES (show 1000+1<=1048576 by omega) a q.Id;rw[this.1,AB];exact⟨rfl,this.2.fit (by omega),by simp⟩;rw[Aa e,Aa e];by_cases g:q.Kind=3;rw[AY g,AY g];have:=oW (show 1000+1<=1048576 by omega) a q.Ab q.BL;rw[this.1,AB];exact⟨rfl,this.2.fit (by omega),by simp⟩;rw[Aa g,Aa g];by_cases j:q.Kind=4;rw[AY j,AY j];have:=AEQ (show 1000+1<=1048576 by omega) a q.Id;rw[this.1,AB];exact⟨rfl,this.2.fit (by omega),by simp⟩;rw[Aa j,Aa j];by_cases y:q.Kind=5;rw[AY y,AY y];have:=zj (show 1000+3<=1048576 by omega) a q.Id;rw[this.1,AB];exact⟨rfl,this.2.fit (by omega),by simp⟩;rw[Aa y,Aa y];by_cases B:q.Kind=6;rw[AY B,AY B];have:=ANx a (show 1000+h.AI.length<=1048576 by omega);rw[this.1,AB];exact⟨rfl,this.2.fit (by omega),by simp⟩;rw[Aa B,Aa B];have:=ANv E q.Id;rw[this.1,AB];exact⟨rfl,this.2.1,this.2.2⟩;grind
def Di:List Bo->AF->AF×List Ck| [],h=>(h,[])|q::l,h=>((Di l (doF h q).1).1,(doF h q).2::(Di l (doF h q).1).2)
theorem Io:∀(l:List Bo) {h:AF},Bt h->Bt (Di l h).1/\(Di l h).2.length=l.length/\∀r∈(Di l h).2,r.Ids.length<=10
 | [],h,a=>⟨a,rfl,by simp[Di]⟩|q::l,h,a=>by have c:=zk a q;have ⟨e,g,j⟩:=Io l c.2.1;grind[Di]
theorem R4:∀(l m:List Bo) (h:AF),Di (l++m) h=((Di m (Di l h).1).1,(Di l h).2++(Di m (Di l h).1).2)| [],m,h=>rfl|q::l,m,h=>by simp only[A8,Di,R4 l m]
theorem QN(q:Bt h){l:List Bo}(hl:l.length<=1048576):eG h l=some (Di l h):=by have hlim:=Gk;unfold eG;rw[Im q,AB];refine(Dl (F:=kW l) (n:=l.length) (λi (v:List Ck×AF)=>(v.1,(i:Int),v.2)) (λi v=>Bt v.2/\v.1.length=i) (λi v=>some ((Di (l.drop i) v.2).1,v.1++(Di (l.drop i) v.2).2)) (by omega) ?_ (v:=([],h)) ⟨q,rfl⟩).trans ?_;rintro L i ⟨a,g⟩ ⟨y,e⟩ hi B;dsimp only at y e B ⊢;unfold kW Y4;dsimp only;rcases AV i l.length with c|E;have j:=zk y l[i];rw[D4 c];simp only[S6 c,CB,BT c,AB,j.1,Kb,AAH,Bh c (show l.length<2 ^ 63 by omega)];rw[DX];have:=B (a++[(doF g l[i]).2],(doF g l[i]).1) ⟨j.2.1,by simp[e]⟩ c;dsimp only at this;rw[this];simp only[Di,BF,JP];grind[CI,AW,Di];simp
theorem pH{n:Int}:IS t n=true↔(∀k∈t,0<=k/\k<=w64 (n-1))/\t.Pairwise λa b=>a≠b:=by grind[Tl,Ch,B6,List.mem_iff_getElem,IS,LM,List.pairwise_iff_getElem]
theorem ai(e:n<=1048576)(h:IS t n=true){k:Int}(a:0<=k)(c:k<n):IS (Sj t k) n=true:=by grind[Sj,pH,A6]
theorem RH.len(hR:RH h):h.AI.length<=4/\h.AI.length=h.AQ.AZ.length:=by have:=CU hR.rules;have:=hR.EH;omega
theorem RH.Ey(hR:RH h)(hl:IS l h.AI.length=true):RH (Ey h l):=⟨hR.rules,hR.now,hR.turn,hR.EH,hR.JJ,hR.cab,hl,hR.Gs,hR.P7⟩
theorem RH.Sn(hR:RH h)(hl:Km l h.AI.length=true)(a:l.length=h.BI.length):RH (Sn h l):=⟨hR.rules,hR.now,hR.turn,hR.EH,hR.JJ,hR.cab,hR.todo,hl,by show (l.length:Int)=_;rw[a];exact hR.P7⟩
theorem RH.put(hR:RH h){k:Int}(a:0<=k)(c:k<h.AI.length):RH (Lv.P.Ey h (Sj h.BM k)):=hR.Ey (ai (by have:=hR.len;omega) hR.todo a c)
theorem ur(hR:RH h)(e:0<=Gt h id):RH (cancelled h id):=by
 have ho:=hR.one e;have j:=ho.size;have a:=hR.len;unfold cancelled;dsimp only;split;rename_i c;refine gX hR ho (g:=Ey (dropped h (par h id)) (Sj (dropped h (par h id)).BM (par h id).Ab)) (TS hR ho c (.inr ⟨rfl,rfl⟩)) rfl rfl rfl rfl (by simp[Ey,dropped,C1]) ?_ rfl;exact ai (by omega) hR.todo j.2.1.1 (by omega);rename_i c;have s1:(par h id).State=1:=by have:=(Fc ho.okp);omega
 have:=ho.pid;exact gX hR ho (g:=Va h (par h id).Ab id) (AHk hR ho s1) rfl rfl rfl rfl (by simp[Va,C1]) hR.todo rfl
theorem AC3(hR:RH h)(B:k<h.AI.length){n:Int}(E:0<=n/\n<=60)(hl:(cbn h k).AZ.Gm+n<=(cbn h k).AZ.Ge):RH (Ur h k n):=by
 have q:=hR.len;have j:=hR.cb B;have kl:=Gj.1 j.led;have c:Fi ⟨(cbn h k).AZ.Total,(cbn h k).AZ.Et+1*n,(cbn h k).AZ.FU+0*n,(cbn h k).AZ.Ge+(-1)*n,(cbn h k).AZ.Gm+0*n⟩=true:=by rw[Gj];dsimp only;omega
 have y:=s8 j.led E (by omega) (by omega) (by omega) (by omega) c;refine RH.mk' hR.rules hR.now hR.turn (by show (h.AI.set _ _).length=_;rw[An];exact hR.EH) hR.JJ ?_ (by show IS (Sj h.BM k) ((h.AI.set _ _).length:Nat)=true;rw[An];exact ai (by omega) hR.todo (by omega) (by omega)) (by show Km h.BI ((h.AI.set _ _).length:Nat)=true;rw[An];exact hR.Gs) hR.P7;intro i hi;have g:i<h.AI.length:=by have:i<(h.AI.set (k:Int).toNat _).length:=hi;rw[An]at this;exact this
 have a:=hR.cb g;show Xt h.AQ h.AG h.Now i (cbn (C1 h k ⟨(l8 (cbn h k).AZ n 1 0 (-1) 0).1,(cbn h k).Row,(cbn h k).B9⟩) i);rw[Je (by omega) (by omega) (by omega)];by_cases e:(i:Int)=k;obtain rfl:i=k:=by omega
 rw[AY rfl,y];exact⟨a.row,a.Hk,a.total,by dsimp only;rw[a.held];omega,by dsimp only;rw[a.KQ];omega,c,a.room⟩;rw[Aa e];exact a
theorem tH(hR:RH h)(a:k<h.AI.length):MS h k=(cbn h k).AZ.Ge-(cbn h k).AZ.Gm:=by have kl:=Gj.1 (hR.cb a).led;grind[MS,cbn,A6]
theorem AAU(hR:RH h)(E:0<=Gt h id)(J:(par h id).State=2):RH (accepted h id):=by
 have ho:=hR.one E;have H:=ho.size;have y:=hR.len;have j:AOA h (par h id) _ (RR h (par h id)):=TS hR ho J (.inl ⟨rfl,rfl⟩);have g:RH (gone (RR h (par h id)) (par h id)):=gX hR ho j rfl rfl rfl rfl (by simp[RR,C1]) hR.todo rfl;unfold accepted;dsimp only;split;rename_i B;have ⟨k,q⟩:=AX B;have c:k<h.AI.length:=by omega
 rw[q];refine AC3 g (by rw[ADC];show k<((RR h (par h id)).AI.length);simpa[RR,C1] using c) (by omega) ?_;have a:=j k c;have kl:=Gj.1 a.led;have I:=a.KQ;rw[Ja _ H.1,AY q]at I;have G:=AEg (h.AG.eraseP λx=>x.Id==id) k;have e:(RR h (par h id)).AG.eraseP (λx=>x.Id==(par h id).Id)=h.AG.eraseP λx=>x.Id==id:=by rw[ho.pid];exact ho.cut
 grind[cbn,RR,Gj,gone,C1,s8];exact g
theorem Vf(a:MF h id=0):0<=Gt h id/\(par h id).State=2:=by unfold MF at a;by_cases c:Gt h id<0;grind;rw[Aa c]at a;by_cases e:(h.AG.getD (Gt h id).toNat zM).State=2;exact⟨by omega,e⟩;grind
theorem Sl(a:verdict h q=0):Is h q=0/\LD q=true:=by grind[verdict,Is]
theorem AEq(c:inB q.Kind 1 7=true)(e:LD q=true)(a:Is h q=0):(q.Kind=1->Zm h q=0)/\(q.Kind=2->¬Gt h q.Id<0) /\
 (q.Kind=3->q.Ab<h.AI.length/\inB q.BL 1 60=true/\q.BL<=MS h q.Ab)/\(q.Kind=4\/q.Kind=5->MF h q.Id=0)/\(q.Kind=6->h.Now<1000000):=by unfold Is at a;rw[c,e]at a;simp only[Dq,if_false]at a;refine⟨λk=>?_,λk=>?_,λk=>?_,λk=>?_,λk=>?_⟩;rw[AY k]at a;exact a;grind;grind;grind;grind
theorem AWv(h:LD q=true):inB q.Kind 1 7=true:=by grind[LD,B6]
theorem HP(a:verdict h q=0):(q.Kind=1->Zm h q=0)/\(q.Kind=2->¬Gt h q.Id<0) /\
 (q.Kind=3->q.Ab<h.AI.length/\inB q.BL 1 60=true/\q.BL<=MS h q.Ab)/\(q.Kind=4\/q.Kind=5->MF h q.Id=0)/\(q.Kind=6->h.Now<1000000):=
 AEq (h:=h) (AWv (Sl a).2) (Sl a).2 (Sl a).1
theorem ACq(hR:RH h)(c:0<=Gt h id)(q:(par h id).State=2):RH (ACp h id):=by have ho:=hR.one c;have j:=ho.size;have a:=hR.len;have e:=ZU hR ho q;have g:=TB h (par h id);exact e.put j.2.1.1 (by have:=g.EH;omega)
theorem AaA:∀{ps:List AR},(∀p∈ps,0<=p.Ab/\p.Ab<4)->(ps.length:Int)=Ds ps 0+Ds ps 1+Ds ps 2+Ds ps 3
 | [],_=>rfl|p::ps,h=>by have c:=AaA (ps:=ps) λq a=>h q (Am _ a);grind[I7,List.length_cons]
theorem AOf{ps:List AR}{c:Int}(h:∀p∈ps,p.Ab≠c):Ds ps c=0:=by
 induction ps with
 |nil=>rfl|cons p ps a=>grind[I7,List.mem_cons_self]
theorem RH.cnt(hR:RH h)(c:Int):Ds h.AG c<=h.AQ.Room:=by have a:=hR.len;have j:=CU hR.rules;by_cases e:0<=c/\c<h.AI.length;obtain⟨k,rfl⟩:=AX e.1;exact(hR.cb (by omega)).room;rw[AOf λp g=>?_];omega;have:=Fc (hR.JJ.par p g).1;omega
theorem s7{cb fr:Int}(hv:verdict h ⟨1,id,cb,fr,sz,tr⟩=0):RH (Ld h id cb fr sz tr)/\(Ld h id cb fr sz tr).AQ=h.AQ/\(Ld h id cb fr sz tr).AG.Perm (Iw h id cb fr sz tr::h.AG)/\∀p∈h.AG,p.Id≠id:=by
 have hR:=HR hv;have hlen:=hR.len;have hr:=CU hR.rules;have O:=hR.now;have hturn:=hR.turn;have j:=(HP hv).1 rfl;have ha:=(Sl hv).2;unfold LD at ha;rw[AY rfl]at ha;simp only[AD,Up,B6]at ha;have ⟨_,ha2,ha3,ha4,ha5⟩:=ha;unfold Zm at j;by_cases c1:(h.AI.length:Int)<=cb\/(h.AI.length:Int)<=fr\/fr=cb;rw[AY c1]at j;cases j;rw[Aa c1]at j;by_cases c2:inB sz 1 h.AQ.BL=false;rw[AY c2]at j;cases j;rw[Aa c2]at j;by_cases c3:h.AQ.Cj<=tr;rw[AY c3]at j;cases j;rw[Aa c3]at j;by_cases c4:inB id 1 999=false;rw[AY c4]at j;cases j;rw[Aa c4]at j;by_cases L:0<=Gt h id;rw[AY L]at j;cases j;rw[Aa L]at j;by_cases c6:h.AQ.Room<=Ds h.AG cb;rw[AY c6]at j;cases j;rw[Aa c6]at j;by_cases c7:0<=fr/\MS h fr<sz;rw[AY c7]at j;cases j;rw[Aa c7]at j;by_cases c8:1000000<h.A3;rw[AY c8]at j;cases j;have J:=B6.1 (by simpa using c2:inB sz 1 h.AQ.BL=true);have c4':=B6.1 (by simpa using c4:inB id 1 999=true);have hfresh:∀p∈h.AG,p.Id≠id:=λp Q e=>L (by have:=(hR.yc Q).1;rw[e]at this;exact this);have hpput:∀p:AR,p.Id=id->Mm h.AG p=put MT p h.AG:=by intro p Q;unfold Mm;unfold Gt at L;rw[Q,Aa L]
 have ew:w64 (h.A3+1)=h.A3+1:=A6 (by omega) (by omega);have S:EE h.AQ ⟨id,cb,fr,sz,tr,h.Now,h.A3,1,0,0⟩ h.Now=true:=by unfold EE;simp only[AD,B6,Bool.or_eq_true,beq_iff_eq,BE,beq_eq_false_iff_ne];have e1:w64 ((h.AQ.AZ.length:Int)-1)=(h.AQ.AZ.length:Int)-1:=A6 (by omega) (by omega);have e2:w64 (h.AQ.Cj-1)=h.AQ.Cj-1:=A6 (by omega) (by omega);have e3:w64 (h.AQ.Cr-1)=h.AQ.Cr-1:=A6 (by omega) (by omega);have e4:w64 (h.Now+h.AQ.Rest)=h.Now+h.AQ.Rest:=A6 (by omega) (by omega);rw[e1,e2,e3,e4];refine⟨hR.rules,O,c4',by omega,by omega,by omega,J,by omega,by omega,by omega,by omega,.inl ⟨trivial,by omega⟩⟩
 have hperm:(put MT (Iw h id cb fr sz tr) h.AG).Perm (Iw h id cb fr sz tr::h.AG):=Z7 _ _;have hpn:∀q:AR,q∈Iw h id cb fr sz tr::h.AG->q=Iw h id cb fr sz tr\/q∈h.AG:=λq E=>Ae.1 E;have hPR:Sr h.AQ h.Now (h.A3+1) (put MT (Iw h id cb fr sz tr) h.AG):=by
  refine⟨?_,?_,?_,?_⟩;rw[GU];have h4:=AaA (ps:=h.AG) λp Q=>by have:=Fc (hR.JJ.par p Q).1;omega
  have r0:=hR.cnt 0;have r1:=hR.cnt 1;have r2:=hR.cnt 2;have r3:=hR.cnt 3;rcases(show cb=0\/cb=1\/cb=2\/cb=3 by omega) with e|e|e|e<;>rw[e]at c6<;>omega;intro q E;rcases hpn q (hperm.subset E) with rfl|E;exact⟨S,by show h.A3<h.A3+1;omega⟩;have:=hR.JJ.par q E;exact⟨this.1,by omega⟩;have hd:Ts MT (Iw h id cb fr sz tr::h.AG):=by unfold Ts;rw[Bn];refine⟨λq E=>?_,hR.JJ.ids.imp λh=>.inl (by unfold MT;rw[decide_eq_true_iff];exact h)⟩;have:=hfresh q E;unfold MT;rw[decide_eq_true_iff,decide_eq_true_iff];show id<q.Id\/q.Id<id;omega
  have hs:Dv MT h.AG=h.AG:=SF nK (hR.JJ.ids.imp λh=>by unfold MT;rw[decide_eq_true_iff];exact h);have:=OD nK hd;rw[II,hs]at this;exact this.imp λh=>by unfold MT at h;simpa using h
  rw[hperm.pairwise_iff (λ{a b} h=>by rw[AE7];exact h),Bn];refine⟨λq E=>?_,hR.JJ.turns⟩;have h1:=hR.JJ.par q E;have h2:=Fc h1.1;unfold Jb Iw;simp only[Bool.or_eq_false_iff,beq_eq_false_iff_ne,Bool.and_eq_false_iff,decide_eq_false_iff_not];refine⟨by omega,.inl (by omega),.inr (by omega)⟩
 have hu:=hPR.uni;have hz:1<=(Iw h id cb fr sz tr).BL/\(Iw h id cb fr sz tr).BL<=6:=⟨J.1,by show sz<=6;omega⟩;have hmain:RH (if 0<=fr then KQ (Hv {h with A3:=w64 (h.A3+1),AG:=Mm h.AG (Iw h id cb fr sz tr)} (Iw h id cb fr sz tr)) fr sz else Hv {h with A3:=w64 (h.A3+1),AG:=Mm h.AG (Iw h id cb fr sz tr)} (Iw h id cb fr sz tr)):=by
  rw[hpput _ rfl,ew];generalize hP:Iw h id cb fr sz tr=p at *;have q1:p.Ab=cb:=by rw[<-hP];rfl
  have q2:p.Bs=fr:=by rw[<-hP];rfl
  have q3:p.BL=sz:=by rw[<-hP];rfl
  have q4:p.State=1:=by rw[<-hP];rfl
  have q5:EE h.AQ p h.Now=true:=by rw[<-hP];exact S
  have hx:∀i:Nat,i<h.AI.length->T3 h.AQ (put MT p h.AG) h.AG h.Now i (cbn (Hv {h with A3:=h.A3+1,AG:=put MT p h.AG} p) i):=by
   intro i hi;unfold Hv;rw[Je (by omega) (by show p.Ab<(h.AI.length:Int);omega) (by omega)];have y:=hR.cb hi;refine T3.perm ?_ (hu.perm hperm) hperm.symm (.refl _);by_cases e:(i:Int)=p.Ab;rw[AY e,<-e];refine⟨?_,?_,y.total,?_,y.KQ,y.led,?_⟩;dsimp only;rw[Lh _ q5 q4,AY e.symm,S8 q5 q4];show put ltE _ (cbn h i).Row=_;rw[y.row];dsimp only;rw[PS _ (by omega)];exact y.Hk;dsimp only;rw[PM _ (by omega)];exact y.held;rw[I7,AY e.symm];have:(i:Int)=cb:=by omega
   rw[this];omega;rw[Aa e];refine⟨?_,?_,y.total,?_,y.KQ,y.led,?_⟩;rw[Lh _ q5 q4,Aa (Ne.symm e)];exact y.row;rw[PS _ (by omega)];exact y.Hk;rw[PM _ (by omega)];exact y.held;rw[I7,Aa (Ne.symm e),Gy];exact y.room
  have hXl:(Hv {h with A3:=h.A3+1,AG:=put MT p h.AG} p).AI.length=h.AI.length:=by simp[Hv,C1]
  have hX:Kept ({h with A3:=h.A3+1,AG:=put MT p h.AG}:AF) (Hv {h with A3:=h.A3+1,AG:=put MT p h.AG} p):=⟨rfl,rfl,rfl,hXl,rfl,rfl⟩;have hXs:∀i:Nat,(cbn (Hv {h with A3:=h.A3+1,AG:=put MT p h.AG} p) i).AZ=(cbn h i).AZ:=by intro i;unfold Hv;rw[Je (by omega) (by show p.Ab<(h.AI.length:Int);omega) (by omega)];by_cases e:(i:Int)=p.Ab;rw[AY e,e];rfl;rw[Aa e];rfl
  have hXp:(Hv {h with A3:=h.A3+1,AG:=put MT p h.AG} p).AG=put MT p h.AG:=rfl;generalize Hv {h with A3:=h.A3+1,AG:=put MT p h.AG} p=X at *;have ⟨B,I,Z,G,x5,x6⟩:=hX;dsimp only at B I Z G x5 x6;split;rename_i f0;have ⟨k,hk⟩:=AX f0;have hkl:k<h.AI.length:=by omega
  have hlo:=tH hR hkl;have hsz:sz<=MS h fr:=by rcases Int.lt_or_le (MS h fr) sz with c|c;exact absurd ⟨f0,c⟩ c7;exact c
  refine RH.mk' (by show EG X.AQ=true;rw[B];exact hR.rules) (by show 0<=X.Now/\X.Now<=1000000;rw[I];exact hR.now) (by show 1<=X.A3/\X.A3<=1000001;rw[Z];omega) (by simp only[KQ,C1,An];rw[G,B];exact hR.EH) (by show Sr X.AQ X.Now X.A3 X.AG;rw[B,I,Z,hXp];exact hPR) ?_
   (by simp only[KQ,C1,An];rw[G,x5];exact hR.todo) (by simp only[KQ,C1,An];rw[G,x6];exact hR.Gs) (by show (X.BI.length:Int)=X.AQ.Da;rw[x6,B];exact hR.P7)
  intro i hi;have H:i<h.AI.length:=by simp only[KQ,C1,An]at hi;rw[G]at hi;exact hi
  have g:=hx i H;unfold KQ;rw[Je f0 (by omega) (by omega)];show Xt X.AQ X.AG X.Now i _;rw[B,I,hXp];refine T3.full (T3.perm (ps:=put MT p h.AG) (qs:=p::h.AG) ?_ hu (.refl _) hperm.symm);by_cases e:(i:Int)=fr;obtain rfl:i=k:=by omega
  rw[AY e,<-e];have kl:=Gj.1 g.led;have hsame:=hXs i;have hl:Fi ⟨(cbn X i).AZ.Total,(cbn X i).AZ.Et+0*sz,(cbn X i).AZ.FU+0*sz,(cbn X i).AZ.Ge+0*sz,(cbn X i).AZ.Gm+1*sz⟩=true:=by rw[Gj];dsimp only;rw[hk,hlo,<-hsame]at hsz;omega
  rw[s8 g.led (by omega) (by omega) (by omega) (by omega) (by omega) hl];refine⟨g.row,g.Hk,g.total,by dsimp only;rw[g.held];omega,?_,hl,g.room⟩;dsimp only;rw[Ja _ hz,ifP,g.KQ];omega;rw[Aa e];refine⟨g.row,g.Hk,g.total,g.held,?_,g.led,g.room⟩;rw[Ja _ hz,ifN,g.KQ];omega;rename_i f0;refine RH.mk' (by rw[B];exact hR.rules) (by rw[I];exact hR.now) (by rw[Z];omega) (by rw[G,B];exact hR.EH) (by rw[B,I,Z,hXp];exact hPR) ?_ (by rw[G,x5];exact hR.todo) (by rw[G,x6];exact hR.Gs) (by rw[x6,B];exact hR.P7);intro i hi;have H:i<h.AI.length:=by omega
  have g:=hx i H;rw[B,I,hXp];refine T3.full (T3.perm (ps:=put MT p h.AG) (qs:=p::h.AG) ?_ hu (.refl _) hperm.symm);refine⟨g.row,g.Hk,g.total,g.held,?_,g.led,g.room⟩;rw[Ja _ hz,ifN,g.KQ];omega
 unfold Ld;dsimp only;generalize hY:(if 0<=fr then KQ (Hv {h with A3:=w64 (h.A3+1),AG:=Mm h.AG (Iw h id cb fr sz tr)} (Iw h id cb fr sz tr)) fr sz else Hv {h with A3:=w64 (h.A3+1),AG:=Mm h.AG (Iw h id cb fr sz tr)} (Iw h id cb fr sz tr))=Y at *;have hYc:Y.AI.length=h.AI.length:=by rw[<-hY];split<;>simp[KQ,Hv,C1]
 have hYp:Y.AG=put MT (Iw h id cb fr sz tr) h.AG:=by rw[<-hY,hpput _ rfl];split<;>rfl
 have hYr:Y.AQ=h.AQ:=by rw[<-hY];split<;>rfl
 exact⟨hmain.put (by omega) (by omega),hYr,by show Y.AG.Perm _;rw[hYp];exact hperm,hfresh⟩
theorem AAu(h:AF)(l:List Int)(j:Int):cbn (Ey h l) j=cbn h j:=rfl
theorem AN2(hi:i<h.AI.length)(a:0<=j):cbn (M9 h i) j=if j=i then ⟨(cbn h i).AZ,EF h.AQ h.AG i h.Now,(cbn h i).B9⟩ else cbn h j:=by grind[M9,AAu,Je]
structure Tk(h g:AF):Prop where
 rules:g.AQ=h.AQ
 now:g.Now=h.Now
 turn:g.A3=h.A3
 EH:g.AI.length=h.AI.length
 JJ:g.AG=h.AG
 Gs:g.BI=h.BI
theorem AEe:Tk h (M9 h i):=by unfold M9;split;exact⟨rfl,rfl,rfl,by simp[Ey,C1],rfl,rfl⟩;exact⟨rfl,rfl,rfl,by simp[C1],rfl,rfl⟩
theorem AHg(hi:i<h.AI.length)(hl:h.AI.length<=1048576)(a:IS h.BM h.AI.length=true):IS (M9 h i).BM h.AI.length=true:=by unfold M9;split;exact ai hl a (by omega) (by omega);exact a
theorem uL:∀(k i:Nat) {h:AF},i+k=h.AI.length->h.AI.length<=1048576->IS h.BM h.AI.length=true ->
 Tk h (Mh k i h)/\IS (Mh k i h).BM h.AI.length=true/\∀j:Nat,j<h.AI.length->cbn (Mh k i h) j=if i<=j then ⟨(cbn h j).AZ,EF h.AQ h.AG j h.Now,(cbn h j).B9⟩ else cbn h j
 |0,i,h,e,hl,c=>⟨⟨rfl,rfl,rfl,rfl,rfl,rfl⟩,c,λj q=>by rw[ifN];rfl⟩|k+1,i,h,e,hl,c=>by
  have hi:i<h.AI.length:=by omega
  have t:=AEe (h:=h) (i:=i);have ⟨a,g,a3⟩:=uL k (i+1) (h:=M9 h i) (by rw[t.EH];omega) (by rw[t.EH];exact hl) (by rw[t.EH];exact AHg hi hl c);unfold Mh;refine⟨⟨a.rules.trans t.rules,a.now.trans t.now,a.turn.trans t.turn,a.EH.trans t.EH,a.JJ.trans t.JJ,a.Gs.trans t.Gs⟩,by rw[t.EH]at g;exact g,?_⟩;intro j q;rw[a3 j (by rw[t.EH];exact q),t.rules,t.JJ,t.now,AN2 hi (by omega)];grind
theorem ADp(h:EE r p now=true)(a:now<1000000):EE r p (now+1)=true:=by grind[CU,EE,B6,A6]
theorem AN4(hR:RH h)(O:h.Now<1000000):RH (AAC h)/\Tk {h with Now:=h.Now+1} (AAC h):=by
 have I:=hR.len;have J:=hR.now;have ew:w64 (h.Now+1)=h.Now+1:=A6 (by omega) (by omega);unfold AAC;rw[ew];have ⟨G,H,a3⟩:=uL h.AI.length 0 (h:={h with Now:=h.Now+1}) (by dsimp only;omega) (by dsimp only;omega) hR.todo;refine⟨?_,G⟩;generalize Mh h.AI.length 0 ({h with Now:=h.Now+1}:AF)=g at *;have ⟨a,j,y,q,B,E⟩:=G;dsimp only at a j y q B E H a3;have hP:Sr h.AQ (h.Now+1) h.A3 h.AG:=⟨hR.JJ.few,λp L=>⟨ADp (hR.JJ.par p L).1 O,(hR.JJ.par p L).2⟩,hR.JJ.ids,hR.JJ.turns⟩;refine RH.mk' (by rw[a];exact hR.rules) (by rw[j];omega) (by rw[y];exact hR.turn) (by rw[q,a];exact hR.EH) (by rw[a,j,y,B];exact hP) ?_ (by rw[q];exact H) (by rw[q,E];exact hR.Gs) (by rw[E,a];exact hR.P7);intro i hi;have e:i<h.AI.length:=by omega
 rw[a,j,B,a3 i e,AY (ER _)];have c:=hR.cb e;exact⟨rfl,c.Hk,c.total,c.held,c.KQ,c.led,c.room⟩
theorem ADP(e:n<=1048576)(h:Km l n=true)(i:Nat)(a:-1<=x)(c:x<n):Km (l.set i x) n=true:=by grind[Km,B6,A6]
def AVw(h g:AF):Prop:=g.AQ=h.AQ/\h.Now+h.A3<=g.Now+g.A3/\g.Now+g.A3<=h.Now+h.A3+1
theorem WS(r:g.AQ=h.AQ)(n:g.Now=h.Now)(t:g.A3=h.A3):AVw h g:=⟨r,by omega,by omega⟩
theorem Kept.WS(k:Kept h g):AVw h g:=Lv.P.WS k.rules k.now k.turn
theorem AMH{who:Int}(G:verdict h ⟨7,who,0,0,0,0⟩=0):RH (XW h who).1/\AVw h (XW h who).1:=by
 have hR:=HR G;have y:=hR.len;have ⟨n,B,e,I⟩:=Tp rfl G;dsimp only at e;have eg:h.BI.getD who.toNat 0=h.BI[n]:=by rw[e,Ah,BB,AU B];rfl
 unfold XW;rw[eg];split;rename_i q;have E:0<h.BM.length:=by grind
 have H:h.BM.getD 0 0=h.BM[0]:=by rw[BB,AU E];rfl
 have a:=pH.1 hR.todo;have c:=a.1 _ (Aw E);rw[A6]at c;have hR1:RH (Ey h (h.BM.drop 1)):=hR.Ey (pH.2 ⟨λk g=>a.1 k (List.mem_of_mem_drop g),a.2.sublist (List.drop_sublist _ _)⟩);refine⟨hR1.Sn ?_ (by rw[An];rfl),WS rfl rfl rfl⟩;rw[H];exact ADP (by show h.AI.length<=_;omega) hR.Gs _ (by omega) (by show _<(h.AI.length:Int);omega);rename_i q;have ⟨k,g,ek⟩:=hR.job B q;rw[ek];have ⟨s1,j,J⟩:=Xe hR g;have sl:=s1.len;refine⟨s1.Sn ?_ (by rw[An]),WS j.rules j.now j.turn⟩;exact ADP (by omega) s1.Gs _ (by omega) (by omega)
theorem AX1(hR:RH h)(q:Bo):RH (doF h q).1/\AVw h (doF h q).1:=by
 unfold doF;by_cases g:verdict h q=0;rw[Aa (not_not_intro g)];by_cases j:q.Kind=1;rw[AY j];unfold eu;by_cases a:verdict h {q with Kind:=1}=0;rw[Aa (not_not_intro a)];have ⟨S,X,_⟩:=s7 a;have O:(Ld h q.Id q.Ab q.Bs q.BL q.DH).Now=h.Now/\(Ld h q.Id q.Ab q.Bs q.BL q.DH).A3=w64 (h.A3+1):=by unfold Ld;split<;>exact⟨rfl,rfl⟩
 have Z:=hR.turn;rw[A6]at O;exact⟨S,X,by dsimp only;omega⟩;rw[AY a];exact⟨hR,WS rfl rfl rfl⟩;rw[Aa j];by_cases y:q.Kind=2;rw[AY y];unfold Qe;by_cases a:verdict h ⟨2,q.Id,0,0,0,0⟩=0;rw[Aa (not_not_intro a)];refine⟨ur hR (by have:=(HP a).2.1 rfl;dsimp only at this;omega),?_⟩;unfold cancelled;dsimp only;split<;>exact(bw _ _).WS;rw[AY a];exact⟨hR,WS rfl rfl rfl⟩;rw[Aa y];by_cases B:q.Kind=3;rw[AY B];unfold eO;by_cases a:verdict h ⟨3,0,q.Ab,0,q.BL,0⟩=0;rw[Aa (not_not_intro a)];have c:=(HP a).2.2.1 rfl;dsimp only at c;have ⟨_,I,Y⟩:=To a;have ⟨k,J⟩:=AX I;have e:k<h.AI.length:=by omega
 have L:=tH hR e;have Q:=B6.1 c.2.1;rw[J]at c ⊢;exact⟨AC3 hR e (by omega) (by omega),WS rfl rfl rfl⟩;rw[AY a];exact⟨hR,WS rfl rfl rfl⟩;rw[Aa B];by_cases E:q.Kind=4;rw[AY E];unfold QY;by_cases a:verdict h ⟨4,q.Id,0,0,0,0⟩=0;rw[Aa (not_not_intro a)];have c:=Vf ((HP a).2.2.2.1 (.inl rfl));refine⟨AAU hR c.1 c.2,?_⟩;unfold accepted;dsimp only;split<;>exact(bw _ _).WS;rw[AY a];exact⟨hR,WS rfl rfl rfl⟩;rw[Aa E];by_cases G:q.Kind=5;rw[AY G];unfold N3;by_cases a:verdict h ⟨5,q.Id,0,0,0,0⟩=0;rw[Aa (not_not_intro a)];have c:=Vf ((HP a).2.2.2.1 (.inr rfl));exact⟨ACq hR c.1 c.2,(TB h _).WS⟩;rw[AY a];exact⟨hR,WS rfl rfl rfl⟩;rw[Aa G];by_cases H:q.Kind=6;rw[AY H];unfold fS;by_cases a:verdict h ⟨6,0,0,0,0,0⟩=0;rw[Aa (not_not_intro a)];have:=AN4 hR ((HP a).2.2.2.2 rfl);exact⟨this.1,this.2.rules,by rw[this.2.now,this.2.turn];dsimp only;omega,by rw[this.2.now,this.2.turn];dsimp only;omega⟩;rw[AY a];exact⟨hR,WS rfl rfl rfl⟩;rw[Aa H];unfold Wq;by_cases a:verdict h ⟨7,q.Id,0,0,0,0⟩=0;rw[Aa (not_not_intro a)];exact AMH a;rw[AY a];exact⟨hR,WS rfl rfl rfl⟩;rw[AY g];exact⟨hR,WS rfl rfl rfl⟩
theorem Um:∀(l:List Bo) {h:AF},RH h->RH (Di l h).1/\(Di l h).1.AQ=h.AQ
 | [],h,hR=>⟨hR,rfl⟩|q::l,h,hR=>by have a:=AX1 hR q;have c:=Um l a.1;exact⟨c.1,c.2.trans a.2.1⟩
theorem Vw:∀(l:List Bo) {h:AF},RH h->h.Now+h.A3<=(Di l h).1.Now+(Di l h).1.A3/\(Di l h).1.Now+(Di l h).1.A3<=h.Now+h.A3+l.length
 | [],h,hR=>⟨Int.le_refl _,by simp[Di]⟩|q::l,h,hR=>by have ⟨a,_,g,j⟩:=AX1 hR q;have ⟨c,e⟩:=Vw l a;simp only[Di,AK];omega
end Lv.P
