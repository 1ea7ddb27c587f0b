/- Plain laws about what the program computes. -/
import Derived.Test.YtnjoipcemhflkaaGreatKDb
import Derived.Test.YtnjoipcemhflkaaGreatPEb
noncomputable section
set_option linter.unusedVariables false
set_option linter.unusedSimpArgs false
set_option linter.unusedSectionVars false
open Bool renaming and_eq_true->AF,not_eq_true'->BF
open Int renaming eq_ofNat_of_zero_le->AX,toNat_natCast->Ac
open List renaming append_assoc->CG,drop_eq_nil_of_le->BA,drop_zero->Cs,ext_getElem->KB,filter_append->JT,filter_cons->Ez,flatten_cons->Eg,getElem?_eq_getElem->AS,getElem_map->KC,getElem_mem->Ah,getElem_range->JV,length_cons->AI,length_filterMap_le->CK,length_map->Af,length_take->BL,map_cons->AJ,map_eq_flatMap->Iz,mem_cons->Ag,mem_cons_of_mem->As,mem_cons_self->Bg,mem_flatten->E0,mem_iff_getElem->DB,mem_singleton->EX,pairwise_cons->BV,pairwise_singleton->Hl,take_add_one->CR,take_of_length_le->BT,take_sublist->HM
open List.cons renaming injEq->Cb
open Nat renaming le_refl->Ad,lt_or_ge->AZ
namespace Lv.P
open Lv Go
def Yp(w:Aw)(p:BY):Aw:=⟨w.Ar.set (p.At.tmod 9).toNat (put ltP p (w.Ar.getD (p.At.tmod 9).toNat []))⟩
def QV(w:Aw)(p:BY):Aw×Bool:=if G2 w=true/\RG p=true/\G2 (Yp w p)=true then (Yp w p,true) else (w,false)
theorem ND{p:BY}(h:RG p=true):(1<=p.At/\p.At<=1000008)/\1<=p.Id/\p.Id<=999:=by
 grind[RG,CA]
theorem cK{n:Int}(h:1<=n):∃k:Nat,k<9/\n.tmod 9=(k:Int):=by
 obtain⟨m,rfl⟩:=AX (show 0<=n by omega);refine⟨m % 9,Nat.mod_lt _ (by omega),?_⟩;rw[Int.tmod_eq_emod_of_nonneg (by omega)];rfl
theorem ADP{α:Type}{l:List (List α)}{k:Nat}(h:k<l.length)(x:List α):(l.set k x).flatten.length+l[k].length=l.flatten.length+x.length:=by
 grind[List.set_eq_take_append_cons_drop,List.take_append_drop,List.drop_eq_getElem_cons]
theorem AXH{α:Type}{l:List (List α)}{k:Nat}(h:k<l.length){x:List α}{a:α}(c:a∈x):a∈(l.set k x).flatten:=by
 rw[E0];exact⟨x,List.mem_set h _,c⟩
theorem o8{w:Aw}(g:Ov w){p:BY}(j:1<=p.At):DV (Yp w p)/\p∈(Yp w p).Ar.flatten:=by
 obtain⟨k,B,e⟩:=cK j;have q:=g.nine;have y:=g.few;unfold Yp;rw[e,Ac];have a:k<w.Ar.length:=by omega
 have h:=ADP a (put ltP p (w.Ar.getD k []));have c:w.Ar.getD k []=w.Ar[k]:=by simp[List.getD,a]
 rw[c,Ft]at h;refine⟨⟨by dsimp only;rw[List.length_set];omega,by dsimp only;rw[c];omega⟩,AXH a (UH.2 (.inl rfl))⟩
theorem U0{w:Aw}(g:DV w)(p:BY):AJ6 w p=some (QV w p):=by
 unfold AJ6 Adc;rw[Tp g,AB,HK g,AB,BK];by_cases hB:G2 w=true
 .have hP:=EF.1 hB;rw[hB,BP,AV,BQ];by_cases j:p.At<1
  .rw[AW j];unfold QV;rw[AR];rintro⟨_,c,_⟩;have:=ND c;omega
  .rw[AR j];obtain⟨q,B⟩:=o8 hP (p:=p) (by omega);obtain⟨k,H,e⟩:=cK (n:=p.At) (by omega);have G:=hP.nine;have y:=hP.few;have a:k<w.Ar.length:=by omega
   have c:w.Ar.getD k []=w.Ar[k]:=by simp[List.getD,a]
   have E:=Lm a;have h:(Aw.mk (w.Ar.set k (put ltP p w.Ar[k])))=Yp w p:=by unfold Yp;rw[e,Ac,c]
   simp only[e,BG a,AB,Vn (l:=w.Ar[k]) (by unfold lim;omega) p,Ac,h,HK q,Tp g,BK];unfold QV;cases hB2:G2 (Yp w p) with
   |false=>rw[Bb,AR (by simp)]|true=>
    rw[BP,AW ⟨hB,(EF.1 hB2).pins p B,rfl⟩]
 grind[Bb,AV,BP,QV]
theorem Un{w:Aw}(E:DV w)(p:BY):AB7 w p=some (QV w p):=by
 unfold AB7 Ws;rw[To E,AB,IC E,AB,BK];by_cases hB:G2 w=true
 .have hP:=EF.1 hB;rw[hB,BP,VV,AB,AV,BK];cases B:RG p with
  |false=>
   rw[Bb];unfold QV;rw[B,AR (by simp)]
  |true=>
   have j:=(ND B).1.1;rw[BP];obtain⟨I,hm⟩:=o8 hP j;obtain⟨k,Z,e⟩:=cK j;have X:=hP.nine;have J:=hP.few;have a:k<w.Ar.length:=by omega
   have H:w.Ar.getD k []=w.Ar[k]:=by simp[List.getD,a]
   have S:=Lm a;have G:(Aw.mk (w.Ar.set k (put ltP p w.Ar[k])))=Yp w p:=by unfold Yp;rw[e,Ac,H]
   have h:∀i:Nat,i<=w.Ar[k].length->∀s:List BY,s=w.Ar[k].take i++p::w.Ar[k].drop i->iP w p w w.Ar[k] (i:Int)=(bd (Rg (Aw.mk (w.Ar.set k s))) fun x=>br (!x) (some (w,false)) (some (Aw.mk (w.Ar.set k s),true))):=by
    intro i hi s Q;have g:Wr w.Ar[k] (i:Int) [p]=@some (C.l (.st 5)).D s:=by
     show pI (.st 5) w.Ar[k] (i:Int) [p]=some s;have q:(0:Int)<=i/\(i:Int).toNat<=w.Ar[k].length/\[p]≠([]:List BY)/\w.Ar[k].length+[p].length<=lim:=⟨by omega,by simpa using hi,by simp,by rw[NB];unfold lim;omega⟩;unfold pI;refine(AW q).trans ?_;rw[Q,Ac];congr 1;exact CG _ _ _
    unfold iP;have O:Y.O5 k 0 [U.sl (C.st 5) s].length [(k,0)]:=⟨rfl,⟨Ad _,by simp⟩,trivial⟩;rw[g];refine(AB (α:=List BY) s _).trans ?_;simp only[e,BG a,AB,Ac,B8 O,To E]
   simp only[e,BG a,AB];have hloop:=TN (lt:=ltP) (F:=AcG w p w w.Ar[k]) (l:=w.Ar[k]) (x:=p) (fun s=>bd (Rg (Aw.mk (w.Ar.set k s))) fun x=>br (!x) (some (w,false)) (some (Aw.mk (w.Ar.set k s),true))) (by omega) ?_ ?_
   .rw[hloop,G,IC I,AB,BK];unfold QV;cases hB2:G2 (Yp w p) with|false=>rw[Bb,AR (by simp)]|true=>rw[BP,AW ⟨hB,B,rfl⟩]
   .intro L i hi;unfold AcG Pp;obtain⟨c,q,y,_⟩:=NR w.Ar[k][i] p;rw[B9 hi,BP,BG hi,AB,q,AB,AV,y,AV,h i (by omega) _ rfl]
   .intro L;unfold AcG Pp;rw[Cr,Bb,AV,Bb,AV,h _ (Ad _) (w.Ar[k]++[p]) (by simp)]
 grind[Bb,AV,BP,QV]
theorem AFA{w:Aw}(a:DV w)(p:BY):DV (QV w p).1:=by
 grind[QV,o8,EF,ND]
def U6:List BY->Aw->Aw×Bool| [],w=>(w,true)|p::ps,w=>if (QV w p).2=true then U6 ps (QV w p).1 else (⟨[]⟩,false)
def Lw(l:List BY):Aw×Bool:=U6 l ⟨List.replicate 9 []⟩
theorem oz:DV ⟨List.replicate 9 []⟩:=by constructor<;>simp
theorem tn{l:List BY}{F:(Int×Aw->AA (Aw×Bool))->Int×Aw->AA (Aw×Bool)}(hl:l.length<2 ^ 62)
 (step:∀L (i:Nat) (h:i<l.length) w,DV w->F L ((i:Int),w)=br (!(QV w l[i]).2) (some (⟨[]⟩,false)) (L (w64 ((i:Int)+1),(QV w l[i]).1)))
 (stop:∀L w,F L ((l.length:Int),w)=some (w,true)):BD F big (0,⟨List.replicate 9 []⟩)=some (Lw l):=by
 refine(C3 (n:=l.length) (fun i (w:Aw)=>((i:Int),w)) (fun _ w=>DV w) (fun i w=>some (U6 (l.drop i) w)) (by omega) ?_ (v:=⟨List.replicate 9 []⟩) oz).trans (by simp[Lw]);intro L i w a hi c;rcases AZ i l.length with h|h
 .rw[step L i h w a,Bn h (by omega),Dg h,U6,BK];cases e:(QV w l[i]).2 with|true=>rw[BP,c _ (AFA a _) h];rfl|false=>rfl
 grind[U6]
theorem zM{l:List BY}(hl:l.length<=1048576):AJ1 l=some (Lw l):=by
 unfold AJ1;rw[m0,AB];refine tn (by omega) ?_ ?_
 .intro L i h w a;unfold AdW
  grind[BP,BG,AB,U0,Ce]
 grind[AdW,Afw,Bb,AV]
theorem xx{l:List BY}(hl:l.length<=1048576):iQ l=some (Lw l):=by
 unfold iQ;rw[mz,AB]
 grind[tn,Af4,BP,BG,AB,Un,Af3,Bb,AV]
theorem tp:∀(l:List BY) {w:Aw},DV w->DV (U6 l w).1
 | [],w,a=>a|p::ps,w,a=>by
  unfold U6;split
  .exact tp ps (AFA a p)
  .constructor<;>simp
theorem cL(l:List BY):DV (Lw l).1:=tp l oz
section
variable{α:Type}{lt:α->α->Bool}
theorem HO(a:α)(l:List α):DZ lt (a::l)=put lt a (DZ lt l):=rfl
theorem ma(h:Swo lt)(B:∀a b,lt a b=false->lt b a=false->a=b){g j:List α}(q:g.Perm j):DZ lt g=DZ lt j:=by
 induction q with
 |nil=>rfl|cons x _ E=>rw[HO,HO,E]|swap x y l=>rw[HO,HO,HO,HO,yq h B]|trans _ _ c e=>exact c.trans e
theorem AEI{a:α}{l:List α}(h:∀b∈l,lt b a=false):put lt a l=a::l:=by
 cases l with
 |nil=>rfl|cons z l=>rw[put,AR (by rw[h z (Bg ..)];simp)]
theorem AEJ{a:α}:∀{l:List α},(∀b∈l,lt b a=true)->put lt a l=l++[a]
 | [],_=>rfl|z::l,h=>by
  rw[put,AW (h z (Bg ..)),AEJ fun b c=>h b (As _ c)];rfl
theorem tV(h:Swo lt){a z:α}{l:List α}(y:Srt lt (z::l))(j:lt z a=false):∀b∈z::l,lt b a=false:=by
 intro b g;rcases Ag.1 g with rfl|g
 .exact j
 .have q:=(BV.1 y).1 b g;cases e:lt b a with
  |false=>rfl|true=>
   rcases h.neg b z a e with c|c
   .rw[q]at c;cases c
   .rw[j]at c;cases c
theorem AMY(h:Swo lt)(a:α):∀{l:List α},Srt lt l->Srt lt (put lt a l)
 | [],_=>Hl _ _|z::l,c=>by
  rw[put];split
  .rename_i g;refine BV.2 ⟨?_,AMY h a (BV.1 c).2⟩;intro b e;rcases UH.1 e with rfl|e
   .exact h.uE _ _ g
   .exact(BV.1 c).1 b e
  .rename_i g;exact BV.2 ⟨tV h c (by simpa using g),c⟩
theorem T6(h:Swo lt):∀l:List α,Srt lt (DZ lt l)| []=>List.Pairwise.nil|a::l=>AMY h a (T6 h l)
theorem VJ(h:Swo lt)(q:α->Bool)(a:α):∀{l:List α},Srt lt l->(put lt a l).filter q=if q a=true then put lt a (l.filter q) else l.filter q
 | [],_=>by by_cases e:q a=true<;>simp[put,e]|z::l,c=>by
  have j:=VJ h q a (BV.1 c).2;rw[put];split
  .grind[put]
  .rename_i g;have habove:=tV h c (by simpa using g);rw[Ez]
   grind[AEI]
theorem M7(h:Swo lt)(q:α->Bool):∀l:List α,(DZ lt l).filter q=DZ lt (l.filter q)
 | []=>rfl|a::l=>by
  rw[HO,VJ h q a (T6 h l),M7 h q l,Ez]
  grind[HO]
theorem P3(h:Swo lt):∀{l:List α},(l.Pairwise fun a b=>lt a b=true)->DZ lt l=l
 | [],_=>rfl|a::l,c=>by
  rw[HO,P3 h (BV.1 c).2,AEI];intro b e;exact h.uE _ _ ((BV.1 c).1 b e)
theorem Nj(h:Swo lt):∀{l:List α},(∀k (q:k+1<l.length),lt l[k] l[k+1]=true)->l.Pairwise fun a b=>lt a b=true
 | [],_=>List.Pairwise.nil| [a],_=>Hl _ _|a::b::l,j=>by
  have y:=Nj h (l:=b::l) fun k q=>j (k+1) (by simpa using q)
  have g:lt a b=true:=j 0 (by simp);refine BV.2 ⟨?_,y⟩;intro c e;rcases Ag.1 e with rfl|e
  .exact g
  .exact h.trans g ((BV.1 y).1 c e)
end
theorem Xx{α β:Type}{f g:β->List α}:∀{l:List β},(∀i∈l,(f i).Sublist (g i))->(l.map f).flatten.Sublist (l.map g).flatten
 | [],_=>List.Sublist.slnil|i::l,h=>by
  simp only[AJ,Eg];exact(h i (Bg ..)).append (Xx fun j a=>h j (As _ a))
def F7(i:Nat)(p:BY):Bool:=p.At.tmod 9==(i:Int)
theorem KN{i:Nat}{p:BY}:F7 i p=true↔p.At.tmod 9=(i:Int):=by unfold F7;exact beq_iff_eq
theorem Vp{w:Aw}(B:Ov w){i:Nat}(hi:i<w.Ar.length):(w.Ar.flatten).filter (F7 i)=w.Ar[i]:=by
 have g:∀j (a:j<w.Ar.length),∀p∈w.Ar[j],p.At.tmod 9=(j:Int):=by
  intro j a p c;obtain⟨k,h,rfl⟩:=DB.1 c;exact B.at_ j a k h
 have e:w.Ar.flatten=(w.Ar.take i).flatten++(w.Ar[i]++(w.Ar.drop (i+1)).flatten):=by
  conv=>lhs;rw[<-List.take_append_drop i w.Ar,List.drop_eq_getElem_cons hi]
  simp only[List.flatten_append,Eg]
 have E:((w.Ar.take i).flatten).filter (F7 i)=[]:=by
  grind[List.filter_eq_nil_iff,List.mem_flatten,List.mem_iff_getElem,KN]
 have G:((w.Ar.drop (i+1)).flatten).filter (F7 i)=[]:=by
  rw[List.filter_eq_nil_iff];intro p c;obtain⟨s,y,q⟩:=E0.1 c;obtain⟨j,a,rfl⟩:=DB.1 y
  grind[KN]
 grind[F7,List.filter_eq_self]
def Yo(S:List BY)(j:Nat):Aw:=⟨(List.range 9).map fun i=>(S.take j).filter (F7 i)⟩
theorem ag{w:Aw}(a:Ov w):w=⟨(List.range 9).map fun i=>(DZ ltP w.Ar.flatten).filter (F7 i)⟩:=by
 have e:=a.nine;cases w with
 |mk sp=>
  congr 1;dsimp only at e a ⊢;apply KB
  .simp[e]
  .intro i c g;rw[KC,JV,M7 FF,Vp a c];exact(P3 FF (Nj FF (a.srt i c))).symm
theorem ATd{w:Aw}(e:Ov w)(j:Nat):Ov (Yo (DZ ltP w.Ar.flatten) j):=by
 have c:(Yo (DZ ltP w.Ar.flatten) j).Ar.flatten.Sublist w.Ar.flatten:=by
  conv=>rhs;rw[ag e]
  exact Xx fun i _=>(HM _ _).filter _
 have E:∀i (h:i<(Yo (DZ ltP w.Ar.flatten) j).Ar.length),(Yo (DZ ltP w.Ar.flatten) j).Ar[i]=((DZ ltP w.Ar.flatten).take j).filter (F7 i):=by
  intro i h;simp only[Yo,KC,JV]
 have q:∀i,i<9->(((DZ ltP w.Ar.flatten).take j).filter (F7 i)).Pairwise fun a b=>ltP a b=true:=by
  intro i hi;have g:i<w.Ar.length:=by rw[e.nine];exact hi
  have y:((DZ ltP w.Ar.flatten).filter (F7 i))=w.Ar[i]:=by
   rw[M7 FF,Vp e g];exact P3 FF (Nj FF (e.srt i g))
  refine List.Pairwise.sublist ((HM _ _).filter _) ?_;rw[y];exact Nj FF (e.srt i g)
 refine⟨by simp[Yo],Nat.le_trans c.length_le e.few,fun p B=>e.pins p (c.subset B),e.ids.sublist c,?_,?_⟩
 .grind[ltP,KN]
 grind[Yo,List.pairwise_iff_getElem]
theorem AVi{w:Aw}(h:Ov w){j:Nat}(L:j<(DZ ltP w.Ar.flatten).length):Yp (Yo (DZ ltP w.Ar.flatten) j) (DZ ltP w.Ar.flatten)[j]=Yo (DZ ltP w.Ar.flatten) (j+1):=by
 have I:(DZ ltP w.Ar.flatten)[j]∈w.Ar.flatten:=P4.1 (Ah L);obtain⟨k,O,e⟩:=cK (ND (h.pins _ I)).1.1;have Q:(DZ ltP w.Ar.flatten).Pairwise fun a b=>ltP b a=false:=T6 FF _
 have J:(DZ ltP w.Ar.flatten).take (j+1)=(DZ ltP w.Ar.flatten).take j++[(DZ ltP w.Ar.flatten)[j]]:=by rw[CR,AS L];rfl
 generalize hS:DZ ltP w.Ar.flatten=S at *;have g:∀(q:BY->Bool),q S[j]=true->(∀b∈(S.take j).filter q,ltP b S[j]=true)->put ltP S[j] ((S.take j).filter q)=(S.take (j+1)).filter q:=by
  intro q Z c;rw[AEJ c,J,JT];simp[Z]
 have H:∀b∈(S.take j).filter (F7 k),ltP b S[j]=true:=by
  intro b Y;have E:k<w.Ar.length:=by rw[h.nine];exact O
  have y:S.filter (F7 k)=w.Ar[k]:=by
   rw[<-hS,M7 FF,Vp h E];exact P3 FF (Nj FF (h.srt k E))
  have B:((S.take (j+1)).filter (F7 k)).Pairwise fun a b=>ltP a b=true:=by
   refine List.Pairwise.sublist ((HM _ _).filter _) ?_;rw[y];exact Nj FF (h.srt k E)
  rw[J,JT]at B;have X:([S[j]]:List BY).filter (F7 k)=[S[j]]:=by simp[KN.2 e]
  rw[X]at B;exact(List.pairwise_append.1 B).2.2 b Y _ (EX.2 rfl)
 unfold Yp Yo;rw[e,Ac];congr 1;apply KB
 .simp
 .intro i h1 y;have hi:i<9:=by simpa using y
  rw[List.getElem_set];have hD:(((List.range 9).map fun i=>(S.take j).filter (F7 i)).getD k [])=(S.take j).filter (F7 k):=by simp[List.getD,O]
  split
  .rename_i G;subst G;rw[hD,g _ (KN.2 e) H];simp
  .grind[KN]
theorem pV{w:Aw}(c:Ov w):Lw (DZ ltP w.Ar.flatten)=(w,true):=by
 have key:∀m j,j+m=(DZ ltP w.Ar.flatten).length->U6 ((DZ ltP w.Ar.flatten).drop j) (Yo (DZ ltP w.Ar.flatten) j)=(w,true):=by
  intro m
  induction m with
  |zero=>
   grind[U6,Yo,ag]
  |succ m g=>
   intro j h;have a:j<(DZ ltP w.Ar.flatten).length:=by omega
   have e:QV (Yo (DZ ltP w.Ar.flatten) j) (DZ ltP w.Ar.flatten)[j]=(Yo (DZ ltP w.Ar.flatten) (j+1),true):=by
    unfold QV;rw[AVi c a,AW];exact⟨EF.2 (ATd c j),c.pins _ (P4.1 (Ah a)),EF.2 (ATd c (j+1))⟩
   rw[Dg a,U6,e,AW rfl];exact g (j+1) (by omega)
 have:=key (DZ ltP w.Ar.flatten).length 0 (by omega);rw[Cs]at this;exact this
def Good(h:AE)(l:List Int):Prop:=DD h=true/\Bt h/\F6 h=l
def zl:Aa:=⟨[],0,0,0,0,0,0,0,0⟩
def K5:AE:=⟨zl,0,0,[],[],[],[]⟩
def Red(l:List Int)(r:AE×Bool):Prop:=(r.2=true->Good r.1 l/\∀h,Good h l->h=r.1)/\(r.2=false->r.1=K5/\∀h,¬Good h l)
theorem Red.one{l:List Int}{r r':AE×Bool}(h:Red l r)(j:Red l r'):r=r':=by
 obtain⟨g,b⟩:=r;obtain⟨g',e⟩:=r';obtain⟨q,a⟩:=h;obtain⟨y,c⟩:=j;dsimp only at q a y c;cases b<;>cases e
 .rw[(a rfl).1,(c rfl).1]
 .grind
 .grind
 grind
theorem Red.bad{l:List Int}(h:∀h,¬Good h l):Red l (K5,false):=⟨fun h=>(by cases h),fun _=>⟨rfl,h⟩⟩
def fr(c:Ae):Int:=c.AY.Dv
def up(x:Int):Int:=w64 (x+1)
theorem nA(h:AE):F6 h=((KQ h.AQ).length:Int)::(KQ h.AQ++(h.Now::h.A0::(h.AG.length:Int)::(h.AG.flatMap LN++(h.AH.map fr++((h.BB.length:Int)::(h.BB++h.A9.map up)))))):=by
 have a:∀l:List Ae,l.flatMap (fun c=>[c.AY.Dv])=l.map fr:=fun l=>by rw[Iz];rfl
 have e:∀l:List Int,l.flatMap (fun x=>[w64 (x+1)])=l.map up:=fun l=>by rw[Iz];rfl
 grind[F6]
def mq(r:Aa)(ps:List AU)(now:Int)(i:Nat)(free:Int):Ae:=
 ⟨⟨r.AY.getD i 0,free,JA ps i,w64 (w64 (r.AY.getD i 0-free)-JA ps i),Ja ps i⟩,Dy r ps i now,(Lw (GP ps i)).1⟩
theorem AVc{t:List Int}{n:Nat}(H:n<=4)(h:HW t n=true):t.length<=n:=by
 by_cases c:t.length<=n
 .exact c
 .exfalso;have a:∀k (B:k<t.length),0<=t[k]/\t[k]<n/\∀j (G:j<k),t[j]≠t[k]:=by
   intro k B;have y:=JY.1 h k B;unfold RW at y;rw[CO B,AF,CA,A2 (by omega) (by omega)]at y;refine⟨y.1.1,by omega,fun j G e=>?_⟩;have E:=y.2;simp only[BF,List.any_eq_false,beq_iff_eq]at E;refine E t[j] ?_ e;rw[DB];exact⟨j,by rw[BL];omega,by rw[List.getElem_take]⟩
  have I:=a 0 (by omega)
  match n,H,c,a with
  |0,_,c,a=>have:=a 0 (by omega);omega|1,_,c,a=>
   have a0:=a 0 (by omega);have g:=a 1 (by omega);have:=g.2.2 0 (by omega);omega
  |2,_,c,a=>
   have a0:=a 0 (by omega);have g:=a 1 (by omega);have q:=a 2 (by omega);have:=g.2.2 0 (by omega);have:=q.2.2 0 (by omega);have:=q.2.2 1 (by omega);omega
  |3,_,c,a=>
   have a0:=a 0 (by omega);have g:=a 1 (by omega);have q:=a 2 (by omega);have a3:=a 3 (by omega);have:=g.2.2 0 (by omega);have:=q.2.2 0 (by omega);have:=q.2.2 1 (by omega);have:=a3.2.2 0 (by omega);have:=a3.2.2 1 (by omega);have:=a3.2.2 2 (by omega);omega
  |4,_,c,a=>
   have a0:=a 0 (by omega);have g:=a 1 (by omega);have q:=a 2 (by omega);have a3:=a 3 (by omega);have a4:=a 4 (by omega)
   grind
structure Aa5(h:AE):Prop where
 rules:Dz h.AQ=true
 De:1<=h.AQ.AY.length/\h.AQ.AY.length<=4
 Aa6:1<=h.AQ.Cu/\h.AQ.Cu<=3
 few:h.AG.length<=40
 par:∀i (hi:i<h.AG.length),Dq h.AQ h.AG[i] h.Now=true
 Ds:h.AH.length=h.AQ.AY.length
 cab:∀i (hi:i<h.AH.length),h.AH[i]=mq h.AQ h.AG h.Now i (fr h.AH[i])/\0<=fr h.AH[i]/\fr h.AH[i]<=h.AQ.AY.getD i 0/\DS h.AG i<=10
 todo:h.BB.length<=h.AQ.AY.length
 PE:(h.A9.length:Int)=h.AQ.Cu
 job:∀x∈h.A9,-1<=x/\x<4
theorem yn{w:Aw}(a:G2 w=true):(Lw (Eu w)).1=w:=by
 unfold Eu;rw[AW a,pV (EF.1 a)]
theorem ON{h:AE}(O:DD h=true):Aa5 h:=by
 obtain⟨q,h2,h3,E,G,H,I,J,L,g⟩:=JL O;have j:=CI q;have hcrew:1<=h.AQ.Cu/\h.AQ.Cu<=3:=j.2.2.2.2.2.2.2.2.2;refine⟨q,j.1,hcrew,E,?_,G,?_,?_,L,?_⟩
 .intro i hi;have:=JY.1 H i hi;unfold bt at this;rw[CO hi,AF]at this;exact this.1
 .intro i hi;have y:i<h.AQ.AY.length:=by omega
  have a:=JY.1 g i hi;unfold WB at a;rw[CO hi,CO y]at a;unfold Jv LR Ed at a;simp only[AF,beq_iff_eq,CA,BF,decide_eq_false_iff_not,Hs dT,Hs dU]at a;obtain⟨S,⟨⟨⟨l1,l2,l3,l4,l5,l6⟩,k3,X⟩,Y,Z,k7,k8⟩,k9⟩:=a;have hD:h.AQ.AY.getD i 0=h.AQ.AY[i]:=by simp[List.getD,y]
  have hroom:=j.2.2.1;have B:=yn X;rw[Z]at B;unfold mq fr;rw[hD,<-Y,<-k7,<-k8,<-S,B];generalize h.AH[i]=c at *;obtain⟨⟨t,f,e,s,td⟩,row,wh⟩:=c;dsimp only at *;have e1:w64 (f+e)=f+e:=A2 (by omega) (by omega);have e2:w64 (f+e+s)=f+e+s:=A2 (by omega) (by omega)
  grind[A2]
 .have:=AVc (by omega) I;omega
 .intro x Q;have:=List.all_eq_true.1 J x Q;rw[CA,A2 (by omega) (by omega)]at this;omega
def Ky(l:List Int):Aa×Bool:=
 match l with
 |a::b::c::d::e::f::g::i::x::s=>if Dz ⟨x::s,a,b,c,d,e,f,g,i⟩=true then (⟨x::s,a,b,c,d,e,f,g,i⟩,true) else (zl,false)|_=>(zl,false)
theorem nh{l:List Int}(h:(Ky l).2=true):Dz (Ky l).1=true/\KQ (Ky l).1=l:=by
 unfold Ky at *;split at h
 .split at h
  .rename_i a;rw[AW a];exact⟨a,rfl⟩
  .cases h
 .cases h
theorem NG{r:Aa}(h:Dz r=true):Ky (KQ r)=(r,true):=by
 have j:=(CI h).1.1;obtain⟨s,a,b,c,d,e,f,g,i⟩:=r
 match s,j with
 |x::s,_=>
  show (if Dz _=true then _ else _)=_;rw[AW h]
theorem zL{l:List Int}(hl:l.length<=1048576):AJ0 l=some (Ky l):=by
 unfold AJ0
 match l,hl with
 | [],_=>rfl| [_],_=>rfl| [_,_],_=>rfl| [_,_,_],_=>rfl| [_,_,_,_],_=>rfl| [_,_,_,_,_],_=>rfl| [_,_,_,_,_,_],_=>rfl| [_,_,_,_,_,_,_],_=>rfl| [_,_,_,_,_,_,_,_],_=>rfl|a::b::c::d::e::f::g::i::x::s,hl=>
  simp only[AI]at hl;have O:(x::s).length<2 ^ 62:=by simp only[AI];omega
  rw[BQ,AR (by simp only[AI];omega)];have h:at? (a::b::c::d::e::f::g::i::x::s) 0=some a:=rfl;have j:at? (a::b::c::d::e::f::g::i::x::s) 1=some b:=rfl;have q:at? (a::b::c::d::e::f::g::i::x::s) 2=some c:=rfl;have y:at? (a::b::c::d::e::f::g::i::x::s) 3=some d:=rfl;have B:at? (a::b::c::d::e::f::g::i::x::s) 4=some e:=rfl;have E:at? (a::b::c::d::e::f::g::i::x::s) 5=some f:=rfl;have G:at? (a::b::c::d::e::f::g::i::x::s) 6=some g:=rfl;have H:at? (a::b::c::d::e::f::g::i::x::s) 7=some i:=rfl;have I:List.drop (Int.toNat 8) (a::b::c::d::e::f::g::i::x::s)=x::s:=rfl;have J:(0:Int)<=8/\(8:Int)<=((a::b::c::d::e::f::g::i::x::s).length:Int):=by simp only[AI];omega
  have hlim:lim=268435456:=rfl;have L:0+(x::s).length<=lim:=by simp only[AI];omega
  simp only[h,j,q,y,B,E,G,H,I,AB,B8 J,B8 L,Ce,Kg,Kh,Ki,Kj,J4,Kk,Kl,List.nil_append,IH (r:=⟨x::s,a,b,c,d,e,f,g,i⟩) O,BK];unfold Ky;dsimp only;cases Dz ⟨x::s,a,b,c,d,e,f,g,i⟩<;>rfl
theorem xw{l:List Int}(hl:l.length<=1048576):iN l=some (Ky l):=by
 unfold iN
 match l,hl with
 | [],_=>rfl| [_],_=>rfl| [_,_],_=>rfl| [_,_,_],_=>rfl| [_,_,_,_],_=>rfl| [_,_,_,_,_],_=>rfl| [_,_,_,_,_,_],_=>rfl| [_,_,_,_,_,_,_],_=>rfl| [_,_,_,_,_,_,_,_],_=>rfl|a::b::c::d::e::f::g::i::x::s,hl=>
  simp only[AI]at hl;have O:(x::s).length<2 ^ 62:=by simp only[AI];omega
  rw[BQ,AR (by simp only[AI];omega)];have h:at? (a::b::c::d::e::f::g::i::x::s) 0=some a:=rfl;have j:at? (a::b::c::d::e::f::g::i::x::s) 1=some b:=rfl;have q:at? (a::b::c::d::e::f::g::i::x::s) 2=some c:=rfl;have y:at? (a::b::c::d::e::f::g::i::x::s) 3=some d:=rfl;have B:at? (a::b::c::d::e::f::g::i::x::s) 4=some e:=rfl;have E:at? (a::b::c::d::e::f::g::i::x::s) 5=some f:=rfl;have G:at? (a::b::c::d::e::f::g::i::x::s) 6=some g:=rfl;have H:at? (a::b::c::d::e::f::g::i::x::s) 7=some i:=rfl;have I:List.drop (Int.toNat 8) (a::b::c::d::e::f::g::i::x::s)=x::s:=rfl;have J:(0:Int)<=8/\(8:Int)<=((a::b::c::d::e::f::g::i::x::s).length:Int):=by simp only[AI];omega
  have L:AJs (x::s)=some (x::s):=Tn (by simp only[AI];omega);simp only[h,j,q,y,B,E,G,H,I,AB,B8 J,L,Ce,Kg,Kh,Ki,Kj,J4,Kk,Kl,HD (r:=⟨x::s,a,b,c,d,e,f,g,i⟩) O,BK];unfold Ky;dsimp only;cases Dz ⟨x::s,a,b,c,d,e,f,g,i⟩<;>rfl
theorem AWY(x y:Int):(x==y)=true↔x=y:=beq_iff_eq
theorem Hz{a b:List Int}(hl:a.length<2 ^ 62):AXb a b=some (ES (·==·) a b):=by
 grind[AXb,PI,Afy,BP,BG,AB,Afx,Bb,AV]
theorem ML{a b:List Int}(hl:a.length<2 ^ 62):Ud a b=some (ES (·==·) a b):=by
 grind[Ud,PI,Af6,BP,BG,AB,Af5,Bb,AV]
def rd(l:List Int)(k:Nat)(b:Bool):Db:=⟨l,(k:Int),b⟩
theorem yF{l:List Int}{k:Nat}{b:Bool}(hl:l.length<=1048576)(q:k<=l.length) :
 ∃n a c,AKB (rd l k b)=some (n,rd l a c)/\a<=l.length/\∀x rest,l.drop k=x::rest->n=x/\l.drop a=rest/\c=b:=by
 unfold AKB;rw[BQ];rcases AZ k l.length with h|h
 .rw[AR (show ¬((rd l k b).at_>=((rd l k b).TF.length:Int)) from by show ¬((k:Int)>=(l.length:Int));omega)];have g:w64 ((k:Int)+1)=((k+1:Nat):Int):=Bn h (by omega);have j:w64 (((k+1:Nat):Int)-1)=(k:Int):=by rw[A2 (by omega) (by omega)];omega
  show ∃n a c,(bd (at? l (w64 (w64 ((k:Int)+1)-1))) fun y=>some (y,Db.mk l (w64 ((k:Int)+1)) b))=_/\_;rw[g,j,BG h,AB];refine⟨_,k+1,b,rfl,by omega,fun x rest e=>?_⟩
  grind[Dg]
 .rw[AW (show (rd l k b).at_>=((rd l k b).TF.length:Int) from by show (k:Int)>=(l.length:Int);omega)];refine⟨0,k,true,rfl,q,fun x rest e=>?_⟩;rw[BA h]at e;cases e
theorem cj{l:List Int}{k:Nat}{b:Bool}(hl:l.length<=1048576)(y:k<=l.length){m:Int}(B:0<=m) :
 ∃n a c,bD (rd l k b) m=some (n,rd l a c)/\a<=l.length/\0<=n/\n<=m/\∀x rest,l.drop k=x::rest->0<=x->x<=m->n=x/\l.drop a=rest/\c=b:=by
 obtain⟨n,a,c,g,h,q⟩:=yF (b:=b) hl y;unfold bD;rw[g,AB,Gk,AB,BK];cases e:inB n 0 m with
 |true=>
  rw[CA]at e;exact⟨n,a,c,rfl,h,e.1,e.2,fun x rest j _ _=>q x rest j⟩
 |false=>
  refine⟨0,a,true,rfl,h,by omega,B,fun x rest j E g=>?_⟩
  grind[inB]
theorem yI{l:List Int}{k:Nat}{b:Bool}(hl:l.length<=1048576)(Z:k<=l.length){n:Nat}(hn:n<=1048576) :
 ∃xs a e,rG (rd l k b) (n:Int)=some (xs,rd l a e)/\a<=l.length/\xs.length=n/\∀ys rest,l.drop k=ys++rest->ys.length=n->xs=ys/\l.drop a=rest/\e=b:=by
 unfold rG;have key:=Pz (F:=AdV (n:Int)) (n:=n) (fun i (v:List Int×Nat×Bool)=>(v.1,(i:Int),rd l v.2.1 v.2.2))
  (fun i v=>v.1.length=i/\v.2.1<=l.length/\∀ys rest,l.drop k=ys++rest->ys.length=n->v.1=ys.take i/\l.drop v.2.1=ys.drop i++rest/\v.2.2=b)
  (fun r:List Int×Db=>∃a e,r.2=rd l a e/\a<=l.length/\r.1.length=n/\∀ys rest,l.drop k=ys++rest->ys.length=n->r.1=ys/\l.drop a=rest/\e=b) (by omega) ?_ (v:=([],k,b)) ⟨rfl,Z,fun ys rest h _=>⟨by simp,by simpa using h,rfl⟩⟩
 .obtain⟨r,hr,a,e,y,S,X,Y⟩:=key;exact⟨r.1,a,e,by rw[<-y];exact hr,S,X,Y⟩
 .rintro L i ⟨xs,q,c⟩ ⟨B,E,G⟩ hi H;dsimp only at B E G H ⊢;unfold AdV;dsimp only;rcases AZ i n with h|h
  .obtain⟨x,q',I,J,O,Q⟩:=yF (b:=c) hl E;have hlim:lim=268435456:=rfl;rw[B9 h,BP,J,AB,B8 (by rw[NB];omega),Bn h (by omega)];refine H (xs++[x],q',I) ⟨by simp[B],O,fun ys rest hy j=>?_⟩ h;obtain⟨p1,p2,p3⟩:=G ys rest hy j;have g:i<ys.length:=by omega
   rw[Dg g]at p2;obtain⟨u1,u2,u3⟩:=Q _ _ p2;refine⟨?_,u2,u3.trans p3⟩;rw[p1,u1,CR,AS g];rfl
  .obtain rfl:i=n:=by omega
   rw[Cr,Bb,AV];unfold Afv
   grind
theorem ten{α:Type}{l:List α}(h:l.length=10):∃a b c d e f g i j k,l=[a,b,c,d,e,f,g,i,j,k]:=by
 match l,h with
 | [a,b,c,d,e,f,g,i,j,k],_=>exact⟨a,b,c,d,e,f,g,i,j,k,rfl⟩
theorem AWz{l:List Int}{k:Nat}{b:Bool}(hl:l.length<=1048576)(hk:k<=l.length) :
 ∃p B E,LA (rd l k b)=some (p,rd l B E)/\B<=l.length/\∀(q:AU) rest,l.drop k=LN q++rest -> -1<=q.Bu->q.Bu<=1048576->p=q/\l.drop B=rest/\E=b:=by
 obtain⟨xs,B,E,Z,h2,h3,h4⟩:=yI (b:=b) hl hk (n:=10) (by omega);obtain⟨a0,c,a,a3,a4,e,g,h,j,y,rfl⟩:=ten h3;unfold LA;rw[show (10:Int)=((10:Nat):Int) from rfl,Z,AB];have G:at? [a0,c,a,a3,a4,e,g,h,j,y] 0=some a0:=rfl;have H:at? [a0,c,a,a3,a4,e,g,h,j,y] 1=some c:=rfl;have I:at? [a0,c,a,a3,a4,e,g,h,j,y] 2=some a:=rfl;have J:at? [a0,c,a,a3,a4,e,g,h,j,y] 3=some a3:=rfl;have L:at? [a0,c,a,a3,a4,e,g,h,j,y] 4=some a4:=rfl;have O:at? [a0,c,a,a3,a4,e,g,h,j,y] 5=some e:=rfl;have Q:at? [a0,c,a,a3,a4,e,g,h,j,y] 6=some g:=rfl;have S:at? [a0,c,a,a3,a4,e,g,h,j,y] 7=some h:=rfl;have X:at? [a0,c,a,a3,a4,e,g,h,j,y] 8=some j:=rfl;have Y:at? [a0,c,a,a3,a4,e,g,h,j,y] 9=some y:=rfl;simp only[G,H,I,J,L,O,Q,S,X,Y,AB,N3];refine⟨_,B,E,rfl,h2,fun q rest hq hf hf2=>?_⟩;obtain⟨p1,p2,p3⟩:=h4 (LN q) rest hq rfl;refine⟨?_,p2,p3⟩;unfold LN at p1;simp only[Cb,and_true]at p1;obtain⟨q0,q1,q2,q3,q4,q5,q6,q7,q8,q9⟩:=p1;rw[A2 (by omega) (by omega)]at q2;have hfrom:w64 ((if a>0 then a else 0)-1)=q.Bu:=by
  grind[A2]
 rw[hfrom,q0,q1,q3,q4,q5,q6,q7,q8,q9]
def tl4(g:AE):List Int:=(g.BB.length:Int)::(g.BB++g.A9.map up)
def tl3(g:AE)(i:Nat):List Int:=(g.AH.drop i).map fr++tl4 g
def tl2(g:AE)(i:Nat):List Int:=(g.AG.drop i).flatMap LN++tl3 g 0
theorem sJ{g:AE}{l:List Int}(h:Good g l):l=((KQ g.AQ).length:Int)::(KQ g.AQ++(g.Now::g.A0::(g.AG.length:Int)::tl2 g 0)):=by
 rw[<-h.2.2,nA];simp only[tl2,tl3,tl4,Cs]
def Hd(g:AE)(R:Aa)(now turn:Int):Prop:=g.AQ=R/\g.Now=now/\g.A0=turn
theorem sM{h:AE}{R:Aa}(hR:h.AQ=R):AE.mk (Aa.mk R.AY R.CS R.Room R.BE R.CE R.Bz R.Rest R.CY R.Cu) h.Now h.A0 h.AG h.AH h.BB h.A9=h:=by
 subst hR;rfl
theorem QK{a b:List Int}:ES (·==·) a b=true↔a=b:=Hs AWY
def jb(j:Int):Int:=w64 ((if j > -5 then j else -5)-1)
theorem AZn{x:Int}(h:-1<=x)(a:x<4):jb (up x)=x:=by
 unfold jb up
 grind[A2]
section spec
variable{l:List Int}(hl:l.length<=1048576){R:Aa×Bool}{now turn:Int}
include hl
theorem AZz{x:List Int×Db}{h:AE}(hR:h.AQ=R.1)(e:Bt h)(c:∀g,Good g l->g=h/\x.2.AAD=false) :
 ∃r,Abp l R x ((),R.1.CS,R.1.Room,R.1.BE,R.1.CE,R.1.Bz,R.1.Rest,R.1.CY,R.1.Cu,h.Now,h.A0,h.AG,h.AH,h.BB,h.A9)=some r/\Red l r:=by
 unfold Abp AcB;dsimp only;rw[sM hR];cases q:x.2.AAD with
 |true=>
  rw[BP,AV,BP];exact⟨_,rfl,Red.bad fun g a=>by have:=(c g a).2;rw[q]at this;cases this⟩
 |false=>
  rw[Bb,GJ e,AB,BK];cases hB:DD h with
  |false=>
   rw[Bb,AV,BP];exact⟨_,rfl,Red.bad fun g a=>by rw[(c g a).1]at a;rw[a.1]at hB;cases hB⟩
  |true=>
   have B:=T9 e hB;rw[BP,tU e hB,AB,Hz (by omega),AB,AV,BK];cases j:ES (·==·) (F6 h) l with
   |true=>
    rw[BP];exact⟨_,rfl,fun _=>⟨⟨hB,e,QK.1 j⟩,fun g a=>(c g a).1⟩,fun y=>by cases y⟩
   |false=>
    rw[Bb];refine⟨_,rfl,Red.bad fun g a=>?_⟩;rw[(c g a).1]at a;rw[QK.2 a.2.2]at j;cases j
theorem AZ2{x:List Int×Db}{ps:List AU}{cs:List Ae}{td:List Int}(g:x.1.length<=1048576) :
 BD (AdZ l R x) big (0,(),R.1.CS,R.1.Room,R.1.BE,R.1.CE,R.1.Bz,R.1.Rest,R.1.CY,R.1.Cu,now,turn,ps,cs,td,[]) =
  Abp l R x ((),R.1.CS,R.1.Room,R.1.BE,R.1.CE,R.1.Bz,R.1.Rest,R.1.CY,R.1.Cu,now,turn,ps,cs,td,x.1.map jb):=by
 refine C3 (n:=x.1.length) (fun i (v:List Int)=>((i:Int),(),R.1.CS,R.1.Room,R.1.BE,R.1.CE,R.1.Bz,R.1.Rest,R.1.CY,R.1.Cu,now,turn,ps,cs,td,v)) (fun i v=>v=(x.1.take i).map jb)
  (fun _ _=>Abp l R x ((),R.1.CS,R.1.Room,R.1.BE,R.1.CE,R.1.Bz,R.1.Rest,R.1.CY,R.1.Cu,now,turn,ps,cs,td,x.1.map jb)) (by omega) ?_ (v:=[]) (by simp)
 intro L i v a hi e;unfold AdZ;dsimp only;rcases AZ i x.1.length with h|h
 .have hlim:lim=268435456:=rfl;have c:v.length<=1048576:=by rw[a,Af,BL];omega
  simp only[B9 h,BP,BG h,AB,N3,Bn h (by omega:x.1.length<2 ^ 63)];rw[B8 (by rw[NB];omega)];refine e _ ?_ h;rw[a,CR,AS h,List.map_append];rfl
 grind[Bb,AV]
theorem AZy(hr:Dz R.1=true){ps:List AU}{cs:List Ae}{k:Nat}{b:Bool}(hk:k<=l.length)(B:ps.length<=1048576)(q:cs.length<=1048576)(j:∀c∈cs,FD c)
 (ha:∀g,Good g l->Hd g R.1 now turn/\g.AG=ps/\g.AH=cs/\l.drop k=tl4 g/\b=false) :
 ∃r,gl l R ((),R.1.CS,R.1.Room,R.1.BE,R.1.CE,R.1.Bz,R.1.Rest,R.1.CY,R.1.Cu,now,turn,ps,cs,[],[],rd l k b)=some r/\Red l r:=by
 have E:=CI hr;have hcrew:=E.2.2.2.2.2.2.2.2.2;unfold gl;dsimp only;obtain⟨nt,k1,J,O,Q,S,e4,X⟩:=cj (b:=b) hl hk (m:=(R.1.AY.length:Int)) (by omega);obtain⟨n,rfl⟩:=AX S;obtain⟨td,k2,G,Y,Z,f3,f4⟩:=yI (b:=J) hl Q (n:=n) (by omega);obtain⟨c,H⟩:=AX (show 0<=R.1.Cu by omega);obtain⟨js,k3,L,g1,g2,g3,g4⟩:=yI (b:=G) hl Z (n:=c) (by omega);rw[O,AB];dsimp only;rw[Y,AB];dsimp only;have e:rG (rd l k2 G) R.1.Cu=some (js,rd l k3 L):=by rw[H];exact g1
 rw[e,AB];rw[AZ2 hl (by dsimp only;omega)];refine AZz hl (h:=⟨R.1,now,turn,ps,cs,td,js.map jb⟩) rfl ⟨by dsimp only;omega,B,q,j,by dsimp only;omega,by dsimp only;rw[Af];omega⟩ ?_;intro g I;obtain⟨⟨q1,q2,q3⟩,q4,q5,q6,q7⟩:=ha g I;have a:=ON I.1;obtain⟨u1,u2,u3⟩:=X _ _ q6 (by omega) (by have:=a.todo;rw[q1]at this;omega);obtain⟨v1,v2,v3⟩:=f4 _ _ u2 (by omega);obtain⟨w1,w2,w3⟩:=g4 (g.A9.map up) [] (by rw[v2,List.append_nil]) (by rw[Af];have:=a.PE;rw[q1,H]at this;omega);have hj:js.map jb=g.A9:=by
  rw[w1,List.map_map]
  conv=>rhs;rw[<-List.map_id g.A9]
  apply List.map_congr_left;intro y hy;have:=a.job y hy;exact AZn this.1 this.2
 refine⟨?_,by dsimp only[rd];rw[w3,v3,u3,q7]⟩;rw[hj,v1];cases g
 grind
theorem AZ1(X:Dz R.1=true){ps:List AU}{k:Nat}{b:Bool}(hk:k<=l.length)(hps:ps.length<=40)
 (ha:∀g,Good g l->Hd g R.1 now turn/\g.AG=ps/\l.drop k=tl3 g 0/\b=false) :
 ∃r,AdX l R ((),R.1.CS,R.1.Room,R.1.BE,R.1.CE,R.1.Bz,R.1.Rest,R.1.CY,R.1.Cu,now,turn,ps,[],[],[],rd l k b)=some r/\Red l r:=by
 have O:=CI X;unfold AdX;dsimp only;refine Pz (n:=R.1.AY.length) (fun i (v:List Ae×Nat×Bool)=>((i:Int),(),R.1.CS,R.1.Room,R.1.BE,R.1.CE,R.1.Bz,R.1.Rest,R.1.CY,R.1.Cu,now,turn,ps,v.1,[],[],rd l v.2.1 v.2.2))
  (fun i v=>v.1.length=i/\(∀c∈v.1,FD c)/\v.2.1<=l.length/\∀g,Good g l->Hd g R.1 now turn/\g.AG=ps/\v.1=g.AH.take i/\l.drop v.2.1=tl3 g i/\v.2.2=false)
  (Red l) (by omega) ?_ (v:=([],k,b)) ⟨rfl,by simp,hk,fun g j=>by obtain⟨h1,h2,h3,h4⟩:=ha g j;exact⟨h1,h2,by simp,h3,h4⟩⟩
 rintro L i ⟨cs,q,c⟩ ⟨S,gf,H,I⟩ hi Y;dsimp only at S gf H I Y ⊢;unfold Afz;dsimp only;rcases AZ i R.1.AY.length with h|h
 .have hseat:=O.2.2.2.2.2.1 _ (Ah h);have hD:R.1.AY.getD i 0=R.1.AY[i]:=by simp[List.getD,h]
  obtain⟨a,q',c',e1,e2,e3,e4,e5⟩:=cj (b:=c) hl H (m:=R.1.AY[i]) (by omega);have J:(GP ps (i:Int)).length<=1048576:=by
   unfold GP;rw[JN];have:=CK (Mj (i:Int)) ps;omega
  have hlim:lim=268435456:=rfl;rw[B9 h,BP,BG h];simp only[AB,e1,cE (show ps.length<=1048576 by omega),zM J,cD (show ps.length<2 ^ 58 by omega),cF (show ps.length<2 ^ 58 by omega),Ce,Kg,Kh,Ki,Kj,J4,Kk,Kl,RS (r:=R.1) (show R.1.AY.length<2 ^ 62 by omega) (show ps.length<=1048576 by omega)];rw[B8 (by rw[NB];omega),Bn h (by omega)];have B:Ae.mk (BI.mk R.1.AY[i] a (JA ps i) (w64 (w64 (R.1.AY[i]-a)-JA ps i)) (Ja ps i)) (Dy R.1 ps i now) (Lw (GP ps i)).1=mq R.1 ps now i a:=by unfold mq;rw[hD]
  rw[B];refine Y (cs++[mq R.1 ps now i a],q',c') ⟨by simp[S],?_,e2,fun g j=>?_⟩ h
  .intro x E;rcases List.mem_append.1 E with E|E
   .exact gf x E
   .rw[EX.1 E];refine⟨?_,cL _⟩;unfold mq Dy;dsimp only;rw[JN];have:=CK (Lf R.1 (i:Int) now) ps;omega
  .obtain⟨⟨p1,p2,p3⟩,p4,p5,G,Q⟩:=I g j;have e:=ON j.1;have y:i<g.AH.length:=by rw[e.Ds,p1];exact h
   obtain⟨w1,w2,Z,w4⟩:=e.cab i y;unfold tl3 at G;rw[Dg y,AJ]at G;obtain⟨u1,u2,u3⟩:=e5 _ _ G w2 (by rw[p1,hD]at Z;exact Z);refine⟨⟨p1,p2,p3⟩,p4,?_,u2,u3.trans Q⟩;rw[CR,AS y,p5,u1];rw[p1,p4,p2]at w1
   conv=>rhs;rw[w1]
   rfl
 .obtain rfl:i=R.1.AY.length:=by omega
  rw[Cr,Bb,AV];refine AZy hl X H (by omega) (by omega) gf fun g j=>?_
  obtain⟨p1,p4,p5,G,Q⟩:=I g j;have e:=ON j.1;have hn:g.AH.length=R.1.AY.length:=by rw[e.Ds,p1.1]
  refine⟨p1,p4,?_,?_,Q⟩
  .rw[p5,BT (by omega)]
  .rw[G];unfold tl3;rw[BA (by omega)];rfl
theorem AZ0(Y:Dz R.1=true){n:Int}{x:Int×Db}(hx:x.1=n)(O:0<=n)(hn:n<=40){k:Nat}{b:Bool}(hk:k<=l.length)
 (ha:∀g,Good g l->Hd g R.1 now turn/\(g.AG.length:Int)=n/\l.drop k=tl2 g 0/\b=false) :
 ∃r,BD (AdY l R x) big (0,(),R.1.CS,R.1.Room,R.1.BE,R.1.CE,R.1.Bz,R.1.Rest,R.1.CY,R.1.Cu,now,turn,[],[],[],[],rd l k b)=some r/\Red l r:=by
 have hrl:=CI Y;obtain⟨m,rfl⟩:=AX O;refine Pz (n:=m) (fun i (v:List AU×Nat×Bool)=>((i:Int),(),R.1.CS,R.1.Room,R.1.BE,R.1.CE,R.1.Bz,R.1.Rest,R.1.CY,R.1.Cu,now,turn,v.1,[],[],[],rd l v.2.1 v.2.2))
  (fun i v=>v.1.length=i/\v.2.1<=l.length/\∀g,Good g l->Hd g R.1 now turn/\g.AG.length=m/\v.1=g.AG.take i/\l.drop v.2.1=tl2 g i/\v.2.2=false)
  (Red l) (by omega) ?_ (v:=([],k,b)) ⟨rfl,hk,fun g a=>by obtain⟨h1,h2,h3,h4⟩:=ha g a;exact⟨h1,by omega,by simp,h3,h4⟩⟩
 rintro L i ⟨ps,q,c⟩ ⟨X,J,B⟩ hi Z;dsimp only at X J B Z ⊢;unfold AdY;dsimp only;rw[hx];rcases AZ i m with h|h
 .obtain⟨p,q',S,e1,e2,e3⟩:=AWz (b:=c) hl J;rw[B9 h,BP,e1,AB];dsimp only;rw[NI (by omega),AB,BK];have E:∀g,Good g l->p=g.AG.getD i ⟨0,0,0,0,0,0,0,0,0,0⟩/\i<g.AG.length/\l.drop q'=tl2 g (i+1)/\S=false:=by
   intro g a;obtain⟨p1,p2,p3,p4,p5⟩:=B g a;have j:i<g.AG.length:=by omega
   have G:=E2 ((ON a.1).par i j);have hs:=(CI G.1).1;unfold tl2 at p4;rw[Dg j,List.flatMap_cons,CG]at p4;obtain⟨H,y,I⟩:=e3 _ _ p4 G.2.2.2.2.1.1 (by omega);refine⟨?_,j,y,I.trans p5⟩;rw[H];simp[List.getD,j]
  cases Q:Dq R.1 p now with
  |true=>
   have hlim:lim=268435456:=rfl;rw[BP,B8 (by rw[NB];omega),Bn h (by omega)];refine Z (ps++[p],q',S) ⟨by simp[X],e2,fun g a=>?_⟩ h;obtain⟨p1,p2,p3,p4,p5⟩:=B g a;obtain⟨H,y,I,u4⟩:=E g a;refine⟨p1,p2,?_,I,u4⟩;rw[CR,AS y,p3,H];simp[List.getD,y]
  |false=>
   rw[Bb];refine⟨_,rfl,Red.bad fun g a=>?_⟩;obtain⟨p1,p2,p3,p4,p5⟩:=B g a;obtain⟨H,y,I,u4⟩:=E g a;have:=(ON a.1).par i y;rw[H]at Q;have e:g.AG.getD i ⟨0,0,0,0,0,0,0,0,0,0⟩=g.AG[i]:=by simp[List.getD,y]
   rw[e,<-p1.1,<-p1.2.1,this]at Q;cases Q
 .obtain rfl:i=m:=by omega
  rw[Cr,Bb,AV];refine AZ1 hl Y J (by omega) fun g a=>?_
  obtain⟨p1,p2,p3,p4,p5⟩:=B g a;refine⟨p1,?_,?_,p5⟩
  .rw[p3,BT (by omega)]
  .rw[p4];unfold tl2;rw[BA (by omega)];rfl
end spec
theorem zF{l:List Int}(hl:l.length<=1048576):∃r,ABi l=some r/\Red l r:=by
 unfold ABi;obtain⟨sz,k1,q,I,J,a3,a4,L⟩:=cj (l:=l) (k:=0) (b:=false) hl (Nat.zero_le _) (m:=12) (by omega);obtain⟨s,rfl⟩:=AX a3;obtain⟨xs,k2,y,S,X,c3,c4⟩:=yI (b:=q) hl J (n:=s) (by omega);have h:bD (Db.mk l 0 false) 12=some ((s:Int),rd l k1 q):=I;rw[h,AB];dsimp only;rw[S,AB];dsimp only;rw[zL (by omega),AB,BK];have e:∀g,Good g l->xs=KQ g.AQ/\l.drop k2=g.Now::g.A0::(g.AG.length:Int)::tl2 g 0/\y=false:=by
  intro g c;have hn:=sJ c;have B:=Lg g.AQ;have a:=ON c.1;obtain⟨E,G,H⟩:=L _ _ (by rw[Cs];exact hn) (by omega) (by have:=a.De;omega)
  grind
 cases hR:(Ky xs).2 with
 |false=>
  rw[Bb];refine⟨_,rfl,Red.bad fun g c=>?_⟩;rw[(e g c).1,NG (ON c.1).rules]at hR;cases hR
 |true=>
  rw[BP];have j:=(nh hR).1;obtain⟨n1,k3,O,Y,Z,d3⟩:=yF (b:=y) hl X;obtain⟨n2,k4,Q,f1,f2,f3⟩:=yF (b:=O) hl Z;obtain⟨n3,k5,b5,g1,g2,g3,g4,g5⟩:=cj (b:=Q) hl f2 (m:=40) (by omega);simp only[Y,AB,Ce,Kg,Kh,Ki,Kj,J4,Kk,Kl,zh,f1,g1];refine AZ0 hl j (now:=n1) (turn:=n2) rfl g3 g4 g2 fun g c=>?_
  obtain⟨q1,q2,q3⟩:=e g c;have a:=ON c.1;obtain⟨E,G,H⟩:=d3 _ _ q2;obtain⟨v1,v2,v3⟩:=f3 _ _ G;obtain⟨w1,w2,w3⟩:=g5 _ _ v2 (by omega) (by have:=a.few;omega);refine⟨⟨?_,E.symm,v1.symm⟩,w1.symm,w2,by rw[w3,v3,H,q3]⟩;rw[q1,NG a.rules]
end Lv.P
