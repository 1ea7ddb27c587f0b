/- Plain laws about what the program computes. -/
import Derived.Test.YtnjoipcemhflkaaGreatKDc
import Derived.Test.YtnjoipcemhflkaaGreatPEc
noncomputable section
set_option linter.unusedVariables false
set_option linter.unusedSimpArgs false
set_option linter.unusedSectionVars false
open Bool renaming and_eq_true->AF,not_eq_true'->A6
open Int renaming eq_ofNat_of_zero_le->AZ,toNat_natCast->Ac
open List renaming append_assoc->Bv,drop_eq_nil_of_le->BI,drop_zero->Cb,ext_getElem->Jw,filter_append->I5,filter_cons->EH,flatten_cons->D2,getElem?_eq_getElem->AU,getElem_map->Jx,getElem_mem->BC,getElem_range->I7,length_cons->AI,length_filterMap_le->Bh,length_map->Ah,length_take->BH,map_cons->AJ,map_eq_flatMap->IW,mem_cons->Ak,mem_cons_of_mem->Aq,mem_cons_self->BQ,mem_flatten->EI,mem_iff_getElem->FR,mem_singleton->Ds,pairwise_cons->BK,pairwise_singleton->G9,take_add_one->Cd,take_of_length_le->BE,take_sublist->Gf
open List.cons renaming injEq->CL
open Nat renaming le_refl->Ab,lt_or_ge->AV
namespace Lv.P
open Lv Go
def VJ(w:Aj)(p:BB):Aj:=⟨w.Ag.set (p.At.tmod 9).toNat (put ltP p (w.Ag.getD (p.At.tmod 9).toNat []))⟩
def NK(w:Aj)(p:BB):Aj×Bool:=if HK w=true/\Q7 p=true/\HK (VJ w p)=true then (VJ w p,true) else (w,false)
theorem NA{p:BB}(h:Q7 p=true):(1<=p.At/\p.At<=1000008)/\1<=p.Id/\p.Id<=999:=by
 grind[Q7,B8]
theorem Zv{n:Int}(h:1<=n):∃k:Nat,k<9/\n.tmod 9=(k:Int):=by
 obtain⟨m,rfl⟩:=AZ (show 0<=n by omega);refine⟨m % 9,Nat.mod_lt _ (by omega),?_⟩;rw[Int.tmod_eq_emod_of_nonneg (by omega)];rfl
theorem gG{α:Type}{l:List (List α)}{k:Nat}(h:k<l.length)(x:List α):(l.set k x).flatten.length+l[k].length=l.flatten.length+x.length:=by
 grind[List.set_eq_take_append_cons_drop,List.take_append_drop,List.drop_eq_getElem_cons]
theorem ARp{α:Type}{l:List (List α)}{k:Nat}(h:k<l.length){x:List α}{a:α}(c:a∈x):a∈(l.set k x).flatten:=by
 rw[EI];exact⟨x,List.mem_set h _,c⟩
theorem jk{w:Aj}(g:Oy w){p:BB}(j:1<=p.At):Cv (VJ w p)/\p∈(VJ w p).Ag.flatten:=by
 obtain⟨k,B,e⟩:=Zv j;have q:=g.nine;have y:=g.few;unfold VJ;rw[e,Ac];have a:k<w.Ag.length:=by omega
 have h:=gG a (put ltP p (w.Ag.getD k []));have c:w.Ag.getD k []=w.Ag[k]:=by simp[List.getD,a]
 rw[c,Ey]at h;refine⟨⟨by dsimp only;rw[List.length_set];omega,by dsimp only;rw[c];omega⟩,ARp a (Tm.2 (.inl rfl))⟩
theorem Lh{w:Aj}(g:Cv w)(p:BB):V3 w p=some (NK w p):=by
 unfold V3 dX;rw[TK g,AB,I1 g,AB,BN];by_cases hB:HK w=true
 .have hP:=DT.1 hB;rw[hB,BP,AT,BJ];by_cases j:p.At<1
  .rw[if_pos j];unfold NK;rw[if_neg];rintro⟨_,c,_⟩;have:=NA c;omega
  .rw[if_neg j];obtain⟨q,B⟩:=jk hP (p:=p) (by omega);obtain⟨k,H,e⟩:=Zv (n:=p.At) (by omega);have G:=hP.nine;have y:=hP.few;have a:k<w.Ag.length:=by omega
   have c:w.Ag.getD k []=w.Ag[k]:=by simp[List.getD,a]
   have E:=KB a;have h:(Aj.mk (w.Ag.set k (put ltP p w.Ag[k])))=VJ w p:=by unfold VJ;rw[e,Ac,c]
   simp only[e,A9 a,AB,VC (l:=w.Ag[k]) (by unfold lim;omega) p,Ac,h,I1 q,TK g,BN];unfold NK;cases hB2:HK (VJ w p) with
   |false=>rw[BS,if_neg (by simp)]|true=>
    rw[BP,if_pos ⟨hB,(DT.1 hB2).pins p B,rfl⟩]
 grind[BS,AT,BP,NK]
theorem UC{w:Aj}(E:Cv w)(p:BB):w9 w p=some (NK w p):=by
 unfold w9 di;rw[TJ E,AB,Kg E,AB,BN];by_cases hB:HK w=true
 .have hP:=DT.1 hB;rw[hB,BP,Uu,AB,AT,BN];cases B:Q7 p with
  |false=>
   rw[BS];unfold NK;rw[B,if_neg (by simp)]
  |true=>
   have j:=(NA B).1.1;rw[BP];obtain⟨I,hm⟩:=jk hP j;obtain⟨k,Z,e⟩:=Zv j;have X:=hP.nine;have J:=hP.few;have a:k<w.Ag.length:=by omega
   have H:w.Ag.getD k []=w.Ag[k]:=by simp[List.getD,a]
   have S:=KB a;have G:(Aj.mk (w.Ag.set k (put ltP p w.Ag[k])))=VJ w p:=by unfold VJ;rw[e,Ac,H]
   have h:∀i:Nat,i<=w.Ag[k].length->∀s:List BB,s=w.Ag[k].take i++p::w.Ag[k].drop i->dj w p w w.Ag[k] (i:Int)=(bd (T3 (Aj.mk (w.Ag.set k s))) fun x=>br (!x) (some (w,false)) (some (Aj.mk (w.Ag.set k s),true))):=by
    intro i hi s Q;have g:ASD w.Ag[k] (i:Int) [p]=@some (C.l (.st 5)).D s:=by
     show j9 (.st 5) w.Ag[k] (i:Int) [p]=some s;have q:(0:Int)<=i/\(i:Int).toNat<=w.Ag[k].length/\[p]≠([]:List BB)/\w.Ag[k].length+[p].length<=lim:=⟨by omega,by simpa using hi,by simp,by rw[KD];unfold lim;omega⟩;unfold j9;refine(if_pos q).trans ?_;rw[Q,Ac];congr 1;exact Bv _ _ _
    unfold dj;have O:Y.MX k 0 [U.sl (C.st 5) s].length [(k,0)]:=⟨rfl,⟨Ab _,by simp⟩,trivial⟩;rw[g];refine(AB (α:=List BB) s _).trans ?_;simp only[e,A9 a,AB,Ac,Bt O,TJ E]
   simp only[e,A9 a,AB];have hloop:=So (lt:=ltP) (F:=V9 w p w w.Ag[k]) (l:=w.Ag[k]) (x:=p) (fun s=>bd (T3 (Aj.mk (w.Ag.set k s))) fun x=>br (!x) (some (w,false)) (some (Aj.mk (w.Ag.set k s),true))) (by omega) ?_ ?_
   .rw[hloop,G,Kg I,AB,BN];unfold NK;cases hB2:HK (VJ w p) with|false=>rw[BS,if_neg (by simp)]|true=>rw[BP,if_pos ⟨hB,B,rfl⟩]
   .intro L i hi;unfold V9 V8;obtain⟨c,q,y,_⟩:=NQ w.Ag[k][i] p;rw[Bw hi,BP,A9 hi,AB,q,AB,AT,y,AT,h i (by omega) _ rfl]
   .intro L;unfold V9 V8;rw[Cc,BS,AT,BS,AT,h _ (Ab _) (w.Ag[k]++[p]) (by simp)]
 grind[BS,AT,BP,NK]
theorem Xa{w:Aj}(a:Cv w)(p:BB):Cv (NK w p).1:=by
 grind[NK,jk,DT,NA]
def US:List BB->Aj->Aj×Bool| [],w=>(w,true)|p::ps,w=>if (NK w p).2=true then US ps (NK w p).1 else (⟨[]⟩,false)
def Lj(l:List BB):Aj×Bool:=US l ⟨List.replicate 9 []⟩
theorem RQ:Cv ⟨List.replicate 9 []⟩:=by constructor<;>simp
theorem nW{l:List BB}{F:(Int×Aj->AA (Aj×Bool))->Int×Aj->AA (Aj×Bool)}(hl:l.length<2 ^ 62)
 (step:∀L (i:Nat) (h:i<l.length) w,Cv w->F L ((i:Int),w)=br (!(NK w l[i]).2) (some (⟨[]⟩,false)) (L (w64 ((i:Int)+1),(NK w l[i]).1)))
 (stop:∀L w,F L ((l.length:Int),w)=some (w,true)):A7 F big (0,⟨List.replicate 9 []⟩)=some (Lj l):=by
 refine(DE (n:=l.length) (fun i (w:Aj)=>((i:Int),w)) (fun _ w=>Cv w) (fun i w=>some (US (l.drop i) w)) (by omega) ?_ (v:=⟨List.replicate 9 []⟩) RQ).trans (by simp[Lj]);intro L i w a hi c;rcases AV i l.length with h|h
 .rw[step L i h w a,BX h (by omega),Dw h,US,BN];cases e:(NK w l[i]).2 with|true=>rw[BP,c _ (Xa a _) h];rfl|false=>rfl
 grind[US]
theorem tG{l:List BB}(hl:l.length<=1048576):AER l=some (Lj l):=by
 unfold AER;rw[Q0,AB];refine nW (by omega) ?_ ?_
 .intro L i h w a;unfold dm
  grind[BP,A9,AB,Lh,CQ]
 grind[dm,xB,BS,AT]
theorem rR{l:List BB}(hl:l.length<=1048576):Nl l=some (Lj l):=by
 unfold Nl;rw[ACJ,AB]
 grind[nW,OW,BP,A9,AB,UC,OV,BS,AT]
theorem nX:∀(l:List BB) {w:Aj},Cv w->Cv (US l w).1
 | [],w,a=>a|p::ps,w,a=>by
  unfold US;split
  .exact nX ps (Xa a p)
  .constructor<;>simp
theorem Zw(l:List BB):Cv (Lj l).1:=nX l RQ
section
variable{α:Type}{lt:α->α->Bool}
theorem Gj(a:α)(l:List α):C7 lt (a::l)=put lt a (C7 lt l):=rfl
theorem gz(h:Swo lt)(B:∀a b,lt a b=false->lt b a=false->a=b){g j:List α}(q:g.Perm j):C7 lt g=C7 lt j:=by
 induction q with
 |nil=>rfl|cons x _ E=>rw[Gj,Gj,E]|swap x y l=>rw[Gj,Gj,Gj,Gj,sV h B]|trans _ _ c e=>exact c.trans e
theorem zP{a:α}{l:List α}(h:∀b∈l,lt b a=false):put lt a l=a::l:=by
 cases l with
 |nil=>rfl|cons z l=>rw[put,if_neg (by rw[h z (BQ ..)];simp)]
theorem zQ{a:α}:∀{l:List α},(∀b∈l,lt b a=true)->put lt a l=l++[a]
 | [],_=>rfl|z::l,h=>by
  rw[put,if_pos (h z (BQ ..)),zQ fun b c=>h b (Aq _ c)];rfl
theorem nJ(h:Swo lt){a z:α}{l:List α}(y:Srt lt (z::l))(j:lt z a=false):∀b∈z::l,lt b a=false:=by
 intro b g;rcases Ak.1 g with rfl|g
 .exact j
 .have q:=(BK.1 y).1 b g;cases e:lt b a with
  |false=>rfl|true=>
   rcases h.neg b z a e with c|c
   .rw[q]at c;cases c
   .rw[j]at c;cases c
theorem AGL(h:Swo lt)(a:α):∀{l:List α},Srt lt l->Srt lt (put lt a l)
 | [],_=>G9 _ _|z::l,c=>by
  rw[put];split
  .rename_i g;refine BK.2 ⟨?_,AGL h a (BK.1 c).2⟩;intro b e;rcases Tm.1 e with rfl|e
   .exact h.ni _ _ g
   .exact(BK.1 c).1 b e
  .rename_i g;exact BK.2 ⟨nJ h c (by simpa using g),c⟩
theorem TZ(h:Swo lt):∀l:List α,Srt lt (C7 lt l)| []=>List.Pairwise.nil|a::l=>AGL h a (TZ h l)
theorem Uf(h:Swo lt)(q:α->Bool)(a:α):∀{l:List α},Srt lt l->(put lt a l).filter q=if q a=true then put lt a (l.filter q) else l.filter q
 | [],_=>by by_cases e:q a=true<;>simp[put,e]|z::l,c=>by
  have j:=Uf h q a (BK.1 c).2;rw[put];split
  .grind[put]
  .rename_i g;have habove:=nJ h c (by simpa using g);rw[EH]
   grind[zP]
theorem M6(h:Swo lt)(q:α->Bool):∀l:List α,(C7 lt l).filter q=C7 lt (l.filter q)
 | []=>rfl|a::l=>by
  rw[Gj,Uf h q a (TZ h l),M6 h q l,EH]
  grind[Gj]
theorem Pt(h:Swo lt):∀{l:List α},(l.Pairwise fun a b=>lt a b=true)->C7 lt l=l
 | [],_=>rfl|a::l,c=>by
  rw[Gj,Pt h (BK.1 c).2,zP];intro b e;exact h.ni _ _ ((BK.1 c).1 b e)
theorem Ng(h:Swo lt):∀{l:List α},(∀k (q:k+1<l.length),lt l[k] l[k+1]=true)->l.Pairwise fun a b=>lt a b=true
 | [],_=>List.Pairwise.nil| [a],_=>G9 _ _|a::b::l,j=>by
  have y:=Ng h (l:=b::l) fun k q=>j (k+1) (by simpa using q)
  have g:lt a b=true:=j 0 (by simp);refine BK.2 ⟨?_,y⟩;intro c e;rcases Ak.1 e with rfl|e
  .exact g
  .exact h.trans g ((BK.1 y).1 c e)
end
theorem Wv{α β:Type}{f g:β->List α}:∀{l:List β},(∀i∈l,(f i).Sublist (g i))->(l.map f).flatten.Sublist (l.map g).flatten
 | [],_=>List.Sublist.slnil|i::l,h=>by
  simp only[AJ,D2];exact(h i (BQ ..)).append (Wv fun j a=>h j (Aq _ a))
def FN(i:Nat)(p:BB):Bool:=p.At.tmod 9==(i:Int)
theorem J7{i:Nat}{p:BB}:FN i p=true↔p.At.tmod 9=(i:Int):=by unfold FN;exact beq_iff_eq
theorem VE{w:Aj}(B:Oy w){i:Nat}(hi:i<w.Ag.length):(w.Ag.flatten).filter (FN i)=w.Ag[i]:=by
 have g:∀j (a:j<w.Ag.length),∀p∈w.Ag[j],p.At.tmod 9=(j:Int):=by
  intro j a p c;obtain⟨k,h,rfl⟩:=FR.1 c;exact B.at_ j a k h
 have e:w.Ag.flatten=(w.Ag.take i).flatten++(w.Ag[i]++(w.Ag.drop (i+1)).flatten):=by
  conv=>lhs;rw[<-List.take_append_drop i w.Ag,List.drop_eq_getElem_cons hi]
  simp only[List.flatten_append,D2]
 have E:((w.Ag.take i).flatten).filter (FN i)=[]:=by
  grind[List.filter_eq_nil_iff,List.mem_flatten,List.mem_iff_getElem,J7]
 have G:((w.Ag.drop (i+1)).flatten).filter (FN i)=[]:=by
  rw[List.filter_eq_nil_iff];intro p c;obtain⟨s,y,q⟩:=EI.1 c;obtain⟨j,a,rfl⟩:=FR.1 y
  grind[J7]
 grind[FN,List.filter_eq_self]
def XZ(S:List BB)(j:Nat):Aj:=⟨(List.range 9).map fun i=>(S.take j).filter (FN i)⟩
theorem Y2{w:Aj}(a:Oy w):w=⟨(List.range 9).map fun i=>(C7 ltP w.Ag.flatten).filter (FN i)⟩:=by
 have e:=a.nine;cases w with
 |mk sp=>
  congr 1;dsimp only at e a ⊢;apply Jw
  .simp[e]
  .intro i c g;rw[Jx,I7,M6 EX,VE a c];exact(Pt EX (Ng EX (a.srt i c))).symm
theorem AOR{w:Aj}(e:Oy w)(j:Nat):Oy (XZ (C7 ltP w.Ag.flatten) j):=by
 have c:(XZ (C7 ltP w.Ag.flatten) j).Ag.flatten.Sublist w.Ag.flatten:=by
  conv=>rhs;rw[Y2 e]
  exact Wv fun i _=>(Gf _ _).filter _
 have E:∀i (h:i<(XZ (C7 ltP w.Ag.flatten) j).Ag.length),(XZ (C7 ltP w.Ag.flatten) j).Ag[i]=((C7 ltP w.Ag.flatten).take j).filter (FN i):=by
  intro i h;simp only[XZ,Jx,I7]
 have q:∀i,i<9->(((C7 ltP w.Ag.flatten).take j).filter (FN i)).Pairwise fun a b=>ltP a b=true:=by
  intro i hi;have g:i<w.Ag.length:=by rw[e.nine];exact hi
  have y:((C7 ltP w.Ag.flatten).filter (FN i))=w.Ag[i]:=by
   rw[M6 EX,VE e g];exact Pt EX (Ng EX (e.srt i g))
  refine List.Pairwise.sublist ((Gf _ _).filter _) ?_;rw[y];exact Ng EX (e.srt i g)
 refine⟨by simp[XZ],Nat.le_trans c.length_le e.few,fun p B=>e.pins p (c.subset B),e.ids.sublist c,?_,?_⟩
 .grind[ltP,J7]
 grind[XZ,List.pairwise_iff_getElem]
theorem AQM{w:Aj}(h:Oy w){j:Nat}(L:j<(C7 ltP w.Ag.flatten).length):VJ (XZ (C7 ltP w.Ag.flatten) j) (C7 ltP w.Ag.flatten)[j]=XZ (C7 ltP w.Ag.flatten) (j+1):=by
 have I:(C7 ltP w.Ag.flatten)[j]∈w.Ag.flatten:=Pu.1 (BC L);obtain⟨k,O,e⟩:=Zv (NA (h.pins _ I)).1.1;have Q:(C7 ltP w.Ag.flatten).Pairwise fun a b=>ltP b a=false:=TZ EX _
 have J:(C7 ltP w.Ag.flatten).take (j+1)=(C7 ltP w.Ag.flatten).take j++[(C7 ltP w.Ag.flatten)[j]]:=by rw[Cd,AU L];rfl
 generalize hS:C7 ltP w.Ag.flatten=S at *;have g:∀(q:BB->Bool),q S[j]=true->(∀b∈(S.take j).filter q,ltP b S[j]=true)->put ltP S[j] ((S.take j).filter q)=(S.take (j+1)).filter q:=by
  intro q Z c;rw[zQ c,J,I5];simp[Z]
 have H:∀b∈(S.take j).filter (FN k),ltP b S[j]=true:=by
  intro b Y;have E:k<w.Ag.length:=by rw[h.nine];exact O
  have y:S.filter (FN k)=w.Ag[k]:=by
   rw[<-hS,M6 EX,VE h E];exact Pt EX (Ng EX (h.srt k E))
  have B:((S.take (j+1)).filter (FN k)).Pairwise fun a b=>ltP a b=true:=by
   refine List.Pairwise.sublist ((Gf _ _).filter _) ?_;rw[y];exact Ng EX (h.srt k E)
  rw[J,I5]at B;have X:([S[j]]:List BB).filter (FN k)=[S[j]]:=by simp[J7.2 e]
  rw[X]at B;exact(List.pairwise_append.1 B).2.2 b Y _ (Ds.2 rfl)
 unfold VJ XZ;rw[e,Ac];congr 1;apply Jw
 .simp
 .intro i h1 y;have hi:i<9:=by simpa using y
  rw[List.getElem_set];have hD:(((List.range 9).map fun i=>(S.take j).filter (FN i)).getD k [])=(S.take j).filter (FN k):=by simp[List.getD,O]
  split
  .rename_i G;subst G;rw[hD,g _ (J7.2 e) H];simp
  .grind[J7]
theorem kM{w:Aj}(c:Oy w):Lj (C7 ltP w.Ag.flatten)=(w,true):=by
 have key:∀m j,j+m=(C7 ltP w.Ag.flatten).length->US ((C7 ltP w.Ag.flatten).drop j) (XZ (C7 ltP w.Ag.flatten) j)=(w,true):=by
  intro m
  induction m with
  |zero=>
   grind[US,XZ,Y2]
  |succ m g=>
   intro j h;have a:j<(C7 ltP w.Ag.flatten).length:=by omega
   have e:NK (XZ (C7 ltP w.Ag.flatten) j) (C7 ltP w.Ag.flatten)[j]=(XZ (C7 ltP w.Ag.flatten) (j+1),true):=by
    unfold NK;rw[AQM c a,if_pos];exact⟨DT.2 (AOR c j),c.pins _ (Pu.1 (BC a)),DT.2 (AOR c (j+1))⟩
   rw[Dw a,US,e,if_pos rfl];exact g (j+1) (by omega)
 have:=key (C7 ltP w.Ag.flatten).length 0 (by omega);rw[Cb]at this;exact this
def Good(h:AE)(l:List Int):Prop:=Dr h=true/\Bf h/\HO h=l
def th:Aa:=⟨[],0,0,0,0,0,0,0,0⟩
def RR:AE:=⟨th,0,0,[],[],[],[]⟩
def Red(l:List Int)(r:AE×Bool):Prop:=(r.2=true->Good r.1 l/\∀h,Good h l->h=r.1)/\(r.2=false->r.1=RR/\∀h,¬Good h l)
theorem Red.one{l:List Int}{r a:AE×Bool}(h:Red l r)(q:Red l a):r=a:=by
 obtain⟨g,b⟩:=r;obtain⟨g',j⟩:=a;obtain⟨y,c⟩:=h;obtain⟨B,e⟩:=q;dsimp only at y c B e;cases b<;>cases j
 .rw[(c rfl).1,(e rfl).1]
 .grind
 .grind
 grind
theorem Red.bad{l:List Int}(h:∀h,¬Good h l):Red l (RR,false):=⟨fun h=>(by cases h),fun _=>⟨rfl,h⟩⟩
def fr(c:Ad):Int:=c.AW.DP
def up(x:Int):Int:=w64 (x+1)
theorem AN6(h:AE):HO h=((Kn h.AR).length:Int)::(Kn h.AR++(h.Now::h.As::(h.AG.length:Int)::(h.AG.flatMap My++(h.AH.map fr++((h.Az.length:Int)::(h.Az++h.Ay.map up)))))):=by
 have a:∀l:List Ad,l.flatMap (fun c=>[c.AW.DP])=l.map fr:=fun l=>by rw[IW];rfl
 have e:∀l:List Int,l.flatMap (fun x=>[w64 (x+1)])=l.map up:=fun l=>by rw[IW];rfl
 grind[HO]
def iK(r:Aa)(ps:List AQ)(now:Int)(i:Nat)(free:Int):Ad:=
 ⟨⟨r.AW.getD i 0,free,Im ps i,w64 (w64 (r.AW.getD i 0-free)-Im ps i),JC ps i⟩,DM r ps i now,(Lj (FO ps i)).1⟩
theorem AQG{t:List Int}{n:Nat}(H:n<=4)(h:Gr t n=true):t.length<=n:=by
 by_cases c:t.length<=n
 .exact c
 .exfalso;have a:∀k (B:k<t.length),0<=t[k]/\t[k]<n/\∀j (G:j<k),t[j]≠t[k]:=by
   intro k B;have y:=JY.1 h k B;unfold TB at y;rw[CC B,AF,B8,A4 (by omega) (by omega)]at y;refine⟨y.1.1,by omega,fun j G e=>?_⟩;have E:=y.2;simp only[A6,List.any_eq_false,beq_iff_eq]at E;refine E t[j] ?_ e;rw[FR];exact⟨j,by rw[BH];omega,by rw[List.getElem_take]⟩
  have I:=a 0 (by omega)
  match n,H,c,a with
  |0,_,c,a=>have:=a 0 (by omega);omega|1,_,c,a=>
   have a0:=a 0 (by omega);have g:=a 1 (by omega);have:=g.2.2 0 (by omega);omega
  |2,_,c,a=>
   have a0:=a 0 (by omega);have g:=a 1 (by omega);have q:=a 2 (by omega);have:=g.2.2 0 (by omega);have:=q.2.2 0 (by omega);have:=q.2.2 1 (by omega);omega
  |3,_,c,a=>
   have a0:=a 0 (by omega);have g:=a 1 (by omega);have q:=a 2 (by omega);have a3:=a 3 (by omega);have:=g.2.2 0 (by omega);have:=q.2.2 0 (by omega);have:=q.2.2 1 (by omega);have:=a3.2.2 0 (by omega);have:=a3.2.2 1 (by omega);have:=a3.2.2 2 (by omega);omega
  |4,_,c,a=>
   have a0:=a 0 (by omega);have g:=a 1 (by omega);have q:=a 2 (by omega);have a3:=a 3 (by omega);have a4:=a 4 (by omega)
   grind
structure AVa(h:AE):Prop where
 rules:Dd h.AR=true
 Df:1<=h.AR.AW.length/\h.AR.AW.length<=4
 AV2:1<=h.AR.Cr/\h.AR.Cr<=3
 few:h.AG.length<=40
 par:∀i (hi:i<h.AG.length),DL h.AR h.AG[i] h.Now=true
 De:h.AH.length=h.AR.AW.length
 cab:∀i (hi:i<h.AH.length),h.AH[i]=iK h.AR h.AG h.Now i (fr h.AH[i])/\0<=fr h.AH[i]/\fr h.AH[i]<=h.AR.AW.getD i 0/\C2 h.AG i<=10
 todo:h.Az.length<=h.AR.AW.length
 P1:(h.Ay.length:Int)=h.AR.Cr
 job:∀x∈h.Ay,-1<=x/\x<4
theorem sS{w:Aj}(a:HK w=true):(Lj (Ep w)).1=w:=by
 unfold Ep;rw[if_pos a,kM (DT.1 a)]
theorem QC{h:AE}(O:Dr h=true):AVa h:=by
 obtain⟨q,h2,h3,E,G,H,I,J,L,g⟩:=J5 O;have j:=B2 q;have hcrew:1<=h.AR.Cr/\h.AR.Cr<=3:=j.2.2.2.2.2.2.2.2.2;refine⟨q,j.1,hcrew,E,?_,G,?_,?_,L,?_⟩
 .intro i hi;have:=JY.1 H i hi;unfold Zi at this;rw[CC hi,AF]at this;exact this.1
 .intro i hi;have y:i<h.AR.AW.length:=by omega
  have a:=JY.1 g i hi;unfold VU at a;rw[CC hi,CC y]at a;unfold Jd Nf EW at a;simp only[AF,beq_iff_eq,B8,A6,decide_eq_false_iff_not,HI aU,HI aV]at a;obtain⟨S,⟨⟨⟨l1,l2,l3,l4,l5,l6⟩,k3,X⟩,Y,Z,k7,k8⟩,k9⟩:=a;have hD:h.AR.AW.getD i 0=h.AR.AW[i]:=by simp[List.getD,y]
  have hroom:=j.2.2.1;have B:=sS X;rw[Z]at B;unfold iK fr;rw[hD,<-Y,<-k7,<-k8,<-S,B];generalize h.AH[i]=c at *;obtain⟨⟨t,f,e,s,td⟩,row,wh⟩:=c;dsimp only at *;have e1:w64 (f+e)=f+e:=A4 (by omega) (by omega);have e2:w64 (f+e+s)=f+e+s:=A4 (by omega) (by omega)
  grind[A4]
 .have:=AQG (by omega) I;omega
 .intro x Q;have:=List.all_eq_true.1 J x Q;rw[B8,A4 (by omega) (by omega)]at this;omega
def Kq(l:List Int):Aa×Bool:=
 match l with
 |a::b::c::d::e::f::g::i::x::s=>if Dd ⟨x::s,a,b,c,d,e,f,g,i⟩=true then (⟨x::s,a,b,c,d,e,f,g,i⟩,true) else (th,false)|_=>(th,false)
theorem jC{l:List Int}(h:(Kq l).2=true):Dd (Kq l).1=true/\Kn (Kq l).1=l:=by
 unfold Kq at *;split at h
 .split at h
  .rename_i a;rw[if_pos a];exact⟨a,rfl⟩
  .cases h
 .cases h
theorem NC{r:Aa}(h:Dd r=true):Kq (Kn r)=(r,true):=by
 have j:=(B2 h).1.1;obtain⟨s,a,b,c,d,e,f,g,i⟩:=r
 match s,j with
 |x::s,_=>
  show (if Dd _=true then _ else _)=_;rw[if_pos h]
theorem tE{l:List Int}(hl:l.length<=1048576):AEP l=some (Kq l):=by
 unfold AEP
 match l,hl with
 | [],_=>rfl| [_],_=>rfl| [_,_],_=>rfl| [_,_,_],_=>rfl| [_,_,_,_],_=>rfl| [_,_,_,_,_],_=>rfl| [_,_,_,_,_,_],_=>rfl| [_,_,_,_,_,_,_],_=>rfl| [_,_,_,_,_,_,_,_],_=>rfl|a::b::c::d::e::f::g::i::x::s,hl=>
  simp only[AI]at hl;have O:(x::s).length<2 ^ 62:=by simp only[AI];omega
  rw[BJ,if_neg (by simp only[AI];omega)];have h:at? (a::b::c::d::e::f::g::i::x::s) 0=some a:=rfl;have j:at? (a::b::c::d::e::f::g::i::x::s) 1=some b:=rfl;have q:at? (a::b::c::d::e::f::g::i::x::s) 2=some c:=rfl;have y:at? (a::b::c::d::e::f::g::i::x::s) 3=some d:=rfl;have B:at? (a::b::c::d::e::f::g::i::x::s) 4=some e:=rfl;have E:at? (a::b::c::d::e::f::g::i::x::s) 5=some f:=rfl;have G:at? (a::b::c::d::e::f::g::i::x::s) 6=some g:=rfl;have H:at? (a::b::c::d::e::f::g::i::x::s) 7=some i:=rfl;have I:List.drop (Int.toNat 8) (a::b::c::d::e::f::g::i::x::s)=x::s:=rfl;have J:(0:Int)<=8/\(8:Int)<=((a::b::c::d::e::f::g::i::x::s).length:Int):=by simp only[AI];omega
  have hlim:lim=268435456:=rfl;have L:0+(x::s).length<=lim:=by simp only[AI];omega
  simp only[h,j,q,y,B,E,G,H,I,AB,Bt J,Bt L,CQ,Ic,Ie,Ig,Ih,H5,Ii,Ij,List.nil_append,Hn (r:=⟨x::s,a,b,c,d,e,f,g,i⟩) O,BN];unfold Kq;dsimp only;cases Dd ⟨x::s,a,b,c,d,e,f,g,i⟩<;>rfl
theorem rP{l:List Int}(hl:l.length<=1048576):Ni l=some (Kq l):=by
 unfold Ni
 match l,hl with
 | [],_=>rfl| [_],_=>rfl| [_,_],_=>rfl| [_,_,_],_=>rfl| [_,_,_,_],_=>rfl| [_,_,_,_,_],_=>rfl| [_,_,_,_,_,_],_=>rfl| [_,_,_,_,_,_,_],_=>rfl| [_,_,_,_,_,_,_,_],_=>rfl|a::b::c::d::e::f::g::i::x::s,hl=>
  simp only[AI]at hl;have O:(x::s).length<2 ^ 62:=by simp only[AI];omega
  rw[BJ,if_neg (by simp only[AI];omega)];have h:at? (a::b::c::d::e::f::g::i::x::s) 0=some a:=rfl;have j:at? (a::b::c::d::e::f::g::i::x::s) 1=some b:=rfl;have q:at? (a::b::c::d::e::f::g::i::x::s) 2=some c:=rfl;have y:at? (a::b::c::d::e::f::g::i::x::s) 3=some d:=rfl;have B:at? (a::b::c::d::e::f::g::i::x::s) 4=some e:=rfl;have E:at? (a::b::c::d::e::f::g::i::x::s) 5=some f:=rfl;have G:at? (a::b::c::d::e::f::g::i::x::s) 6=some g:=rfl;have H:at? (a::b::c::d::e::f::g::i::x::s) 7=some i:=rfl;have I:List.drop (Int.toNat 8) (a::b::c::d::e::f::g::i::x::s)=x::s:=rfl;have J:(0:Int)<=8/\(8:Int)<=((a::b::c::d::e::f::g::i::x::s).length:Int):=by simp only[AI];omega
  have L:KZ (x::s)=some (x::s):=VX (by simp only[AI];omega);simp only[h,j,q,y,B,E,G,H,I,AB,Bt J,L,CQ,Ic,Ie,Ig,Ih,H5,Ii,Ij,Hh (r:=⟨x::s,a,b,c,d,e,f,g,i⟩) O,BN];unfold Kq;dsimp only;cases Dd ⟨x::s,a,b,c,d,e,f,g,i⟩<;>rfl
theorem AQ7(x y:Int):(x==y)=true↔x=y:=beq_iff_eq
theorem MO{a b:List Int}(hl:a.length<2 ^ 62):ZL a b=some (HQ (·==·) a b):=by
 grind[ZL,Yw,xD,BP,A9,AB,xC,BS,AT]
theorem yo{a b:List Int}(hl:a.length<2 ^ 62):Ha a b=some (HQ (·==·) a b):=by
 grind[Ha,Yw,JA,BP,A9,AB,I9,BS,AT]
def rd(l:List Int)(k:Nat)(b:Bool):C9:=⟨l,(k:Int),b⟩
theorem rb{l:List Int}{k:Nat}{b:Bool}(hl:l.length<=1048576)(q:k<=l.length) :
 ∃n a c,ZI (rd l k b)=some (n,rd l a c)/\a<=l.length/\∀x rest,l.drop k=x::rest->n=x/\l.drop a=rest/\c=b:=by
 unfold ZI;rw[BJ];rcases AV k l.length with h|h
 .rw[if_neg (show ¬((rd l k b).at_>=((rd l k b).Sf.length:Int)) from by show ¬((k:Int)>=(l.length:Int));omega)];have g:w64 ((k:Int)+1)=((k+1:Nat):Int):=BX h (by omega);have j:w64 (((k+1:Nat):Int)-1)=(k:Int):=by rw[A4 (by omega) (by omega)];omega
  show ∃n a c,(bd (at? l (w64 (w64 ((k:Int)+1)-1))) fun y=>some (y,C9.mk l (w64 ((k:Int)+1)) b))=_/\_;rw[g,j,A9 h,AB];refine⟨_,k+1,b,rfl,by omega,fun x rest e=>?_⟩
  grind[Dw]
 .rw[if_pos (show (rd l k b).at_>=((rd l k b).Sf.length:Int) from by show (k:Int)>=(l.length:Int);omega)];refine⟨0,k,true,rfl,q,fun x rest e=>?_⟩;rw[BI h]at e;cases e
theorem aA{l:List Int}{k:Nat}{b:Bool}(hl:l.length<=1048576)(y:k<=l.length){m:Int}(B:0<=m) :
 ∃n a c,ZJ (rd l k b) m=some (n,rd l a c)/\a<=l.length/\0<=n/\n<=m/\∀x rest,l.drop k=x::rest->0<=x->x<=m->n=x/\l.drop a=rest/\c=b:=by
 obtain⟨n,a,c,g,h,q⟩:=rb (b:=b) hl y;unfold ZJ;rw[g,AB,GC,AB,BN];cases e:inB n 0 m with
 |true=>
  rw[B8]at e;exact⟨n,a,c,rfl,h,e.1,e.2,fun x rest j _ _=>q x rest j⟩
 |false=>
  refine⟨0,a,true,rfl,h,by omega,B,fun x rest j E g=>?_⟩
  grind[inB]
theorem rh{l:List Int}{k:Nat}{b:Bool}(hl:l.length<=1048576)(Z:k<=l.length){n:Nat}(hn:n<=1048576) :
 ∃xs a e,ZK (rd l k b) (n:Int)=some (xs,rd l a e)/\a<=l.length/\xs.length=n/\∀ys rest,l.drop k=ys++rest->ys.length=n->xs=ys/\l.drop a=rest/\e=b:=by
 unfold ZK;have key:=JB (F:=dk (n:Int)) (n:=n) (fun i (v:List Int×Nat×Bool)=>(v.1,(i:Int),rd l v.2.1 v.2.2))
  (fun i v=>v.1.length=i/\v.2.1<=l.length/\∀ys rest,l.drop k=ys++rest->ys.length=n->v.1=ys.take i/\l.drop v.2.1=ys.drop i++rest/\v.2.2=b)
  (fun r:List Int×C9=>∃a e,r.2=rd l a e/\a<=l.length/\r.1.length=n/\∀ys rest,l.drop k=ys++rest->ys.length=n->r.1=ys/\l.drop a=rest/\e=b) (by omega) ?_ (v:=([],k,b)) ⟨rfl,Z,fun ys rest h _=>⟨by simp,by simpa using h,rfl⟩⟩
 .obtain⟨r,hr,a,e,y,S,X,Y⟩:=key;exact⟨r.1,a,e,by rw[<-y];exact hr,S,X,Y⟩
 .rintro L i ⟨xs,q,c⟩ ⟨B,E,G⟩ hi H;dsimp only at B E G H ⊢;unfold dk;dsimp only;rcases AV i n with h|h
  .obtain⟨x,q',I,J,O,Q⟩:=rb (b:=c) hl E;have hlim:lim=268435456:=rfl;rw[Bw h,BP,J,AB,Bt (by rw[KD];omega),BX h (by omega)];refine H (xs++[x],q',I) ⟨by simp[B],O,fun ys rest hy j=>?_⟩ h;obtain⟨p1,p2,p3⟩:=G ys rest hy j;have g:i<ys.length:=by omega
   rw[Dw g]at p2;obtain⟨u1,u2,u3⟩:=Q _ _ p2;refine⟨?_,u2,u3.trans p3⟩;rw[p1,u1,Cd,AU g];rfl
  .obtain rfl:i=n:=by omega
   rw[Cc,BS,AT];unfold xA
   grind
theorem ten{α:Type}{l:List α}(h:l.length=10):∃a b c d e f g i j k,l=[a,b,c,d,e,f,g,i,j,k]:=by
 match l,h with
 | [a,b,c,d,e,f,g,i,j,k],_=>exact⟨a,b,c,d,e,f,g,i,j,k,rfl⟩
theorem ARX{l:List Int}{k:Nat}{b:Bool}(hl:l.length<=1048576)(hk:k<=l.length) :
 ∃p B E,AEQ (rd l k b)=some (p,rd l B E)/\B<=l.length/\∀(q:AQ) rest,l.drop k=My q++rest -> -1<=q.BY->q.BY<=1048576->p=q/\l.drop B=rest/\E=b:=by
 obtain⟨xs,B,E,Z,h2,h3,h4⟩:=rh (b:=b) hl hk (n:=10) (by omega);obtain⟨a0,c,a,a3,a4,e,g,h,j,y,rfl⟩:=ten h3;unfold AEQ;rw[show (10:Int)=((10:Nat):Int) from rfl,Z,AB];have G:at? [a0,c,a,a3,a4,e,g,h,j,y] 0=some a0:=rfl;have H:at? [a0,c,a,a3,a4,e,g,h,j,y] 1=some c:=rfl;have I:at? [a0,c,a,a3,a4,e,g,h,j,y] 2=some a:=rfl;have J:at? [a0,c,a,a3,a4,e,g,h,j,y] 3=some a3:=rfl;have L:at? [a0,c,a,a3,a4,e,g,h,j,y] 4=some a4:=rfl;have O:at? [a0,c,a,a3,a4,e,g,h,j,y] 5=some e:=rfl;have Q:at? [a0,c,a,a3,a4,e,g,h,j,y] 6=some g:=rfl;have S:at? [a0,c,a,a3,a4,e,g,h,j,y] 7=some h:=rfl;have X:at? [a0,c,a,a3,a4,e,g,h,j,y] 8=some j:=rfl;have Y:at? [a0,c,a,a3,a4,e,g,h,j,y] 9=some y:=rfl;simp only[G,H,I,J,L,O,Q,S,X,Y,AB,MF];refine⟨_,B,E,rfl,h2,fun q rest hq hf hf2=>?_⟩;obtain⟨p1,p2,p3⟩:=h4 (My q) rest hq rfl;refine⟨?_,p2,p3⟩;unfold My at p1;simp only[CL,and_true]at p1;obtain⟨q0,q1,q2,q3,q4,q5,q6,q7,q8,q9⟩:=p1;rw[A4 (by omega) (by omega)]at q2;have hfrom:w64 ((if a>0 then a else 0)-1)=q.BY:=by
  grind[A4]
 rw[hfrom,q0,q1,q3,q4,q5,q6,q7,q8,q9]
def tl4(g:AE):List Int:=(g.Az.length:Int)::(g.Az++g.Ay.map up)
def tl3(g:AE)(i:Nat):List Int:=(g.AH.drop i).map fr++tl4 g
def tl2(g:AE)(i:Nat):List Int:=(g.AG.drop i).flatMap My++tl3 g 0
theorem mL{g:AE}{l:List Int}(h:Good g l):l=((Kn g.AR).length:Int)::(Kn g.AR++(g.Now::g.As::(g.AG.length:Int)::tl2 g 0)):=by
 rw[<-h.2.2,AN6];simp only[tl2,tl3,tl4,Cb]
def Hd(g:AE)(R:Aa)(now turn:Int):Prop:=g.AR=R/\g.Now=now/\g.As=turn
theorem mN{h:AE}{R:Aa}(hR:h.AR=R):AE.mk (Aa.mk R.AW R.CK R.Room R.A5 R.CD R.Bq R.Rest R.CP R.Cr) h.Now h.As h.AG h.AH h.Az h.Ay=h:=by
 subst hR;rfl
theorem QD{a b:List Int}:HQ (·==·) a b=true↔a=b:=HI AQ7
def jb(j:Int):Int:=w64 ((if j > -5 then j else -5)-1)
theorem AUL{x:Int}(h:-1<=x)(a:x<4):jb (up x)=x:=by
 unfold jb up
 grind[A4]
section spec
variable{l:List Int}(hl:l.length<=1048576){R:Aa×Bool}{now turn:Int}
include hl
theorem AUi{x:List Int×C9}{h:AE}(hR:h.AR=R.1)(e:Bf h)(c:∀g,Good g l->g=h/\x.2.uE=false) :
 ∃r,SE l R x ((),R.1.CK,R.1.Room,R.1.A5,R.1.CD,R.1.Bq,R.1.Rest,R.1.CP,R.1.Cr,h.Now,h.As,h.AG,h.AH,h.Az,h.Ay)=some r/\Red l r:=by
 unfold SE WA;dsimp only;rw[mN hR];cases q:x.2.uE with
 |true=>
  rw[BP,AT,BP];exact⟨_,rfl,Red.bad fun g a=>by have:=(c g a).2;rw[q]at this;cases this⟩
 |false=>
  rw[BS,Hm e,AB,BN];cases hB:Dr h with
  |false=>
   rw[BS,AT,BP];exact⟨_,rfl,Red.bad fun g a=>by rw[(c g a).1]at a;rw[a.1]at hB;cases hB⟩
  |true=>
   have B:=Td e hB;rw[BP,nI e hB,AB,MO (by omega),AB,AT,BN];cases j:HQ (·==·) (HO h) l with
   |true=>
    rw[BP];exact⟨_,rfl,fun _=>⟨⟨hB,e,QD.1 j⟩,fun g a=>(c g a).1⟩,fun y=>by cases y⟩
   |false=>
    rw[BS];refine⟨_,rfl,Red.bad fun g a=>?_⟩;rw[(c g a).1]at a;rw[QD.2 a.2.2]at j;cases j
theorem AUl{x:List Int×C9}{ps:List AQ}{cs:List Ad}{td:List Int}(g:x.1.length<=1048576) :
 A7 (dt l R x) big (0,(),R.1.CK,R.1.Room,R.1.A5,R.1.CD,R.1.Bq,R.1.Rest,R.1.CP,R.1.Cr,now,turn,ps,cs,td,[]) =
  SE l R x ((),R.1.CK,R.1.Room,R.1.A5,R.1.CD,R.1.Bq,R.1.Rest,R.1.CP,R.1.Cr,now,turn,ps,cs,td,x.1.map jb):=by
 refine DE (n:=x.1.length) (fun i (v:List Int)=>((i:Int),(),R.1.CK,R.1.Room,R.1.A5,R.1.CD,R.1.Bq,R.1.Rest,R.1.CP,R.1.Cr,now,turn,ps,cs,td,v)) (fun i v=>v=(x.1.take i).map jb)
  (fun _ _=>SE l R x ((),R.1.CK,R.1.Room,R.1.A5,R.1.CD,R.1.Bq,R.1.Rest,R.1.CP,R.1.Cr,now,turn,ps,cs,td,x.1.map jb)) (by omega) ?_ (v:=[]) (by simp)
 intro L i v a hi e;unfold dt;dsimp only;rcases AV i x.1.length with h|h
 .have hlim:lim=268435456:=rfl;have c:v.length<=1048576:=by rw[a,Ah,BH];omega
  simp only[Bw h,BP,A9 h,AB,MF,BX h (by omega:x.1.length<2 ^ 63)];rw[Bt (by rw[KD];omega)];refine e _ ?_ h;rw[a,Cd,AU h,List.map_append];rfl
 grind[BS,AT]
theorem AUh(hr:Dd R.1=true){ps:List AQ}{cs:List Ad}{k:Nat}{b:Bool}(hk:k<=l.length)(B:ps.length<=1048576)(q:cs.length<=1048576)(j:∀c∈cs,EU c)
 (ha:∀g,Good g l->Hd g R.1 now turn/\g.AG=ps/\g.AH=cs/\l.drop k=tl4 g/\b=false) :
 ∃r,dp l R ((),R.1.CK,R.1.Room,R.1.A5,R.1.CD,R.1.Bq,R.1.Rest,R.1.CP,R.1.Cr,now,turn,ps,cs,[],[],rd l k b)=some r/\Red l r:=by
 have E:=B2 hr;have hcrew:=E.2.2.2.2.2.2.2.2.2;unfold dp;dsimp only;obtain⟨nt,k1,J,O,Q,S,e4,X⟩:=aA (b:=b) hl hk (m:=(R.1.AW.length:Int)) (by omega);obtain⟨n,rfl⟩:=AZ S;obtain⟨td,k2,G,Y,Z,f3,f4⟩:=rh (b:=J) hl Q (n:=n) (by omega);obtain⟨c,H⟩:=AZ (show 0<=R.1.Cr by omega);obtain⟨js,k3,L,g1,g2,g3,g4⟩:=rh (b:=G) hl Z (n:=c) (by omega);rw[O,AB];dsimp only;rw[Y,AB];dsimp only;have e:ZK (rd l k2 G) R.1.Cr=some (js,rd l k3 L):=by rw[H];exact g1
 rw[e,AB];rw[AUl hl (by dsimp only;omega)];refine AUi hl (h:=⟨R.1,now,turn,ps,cs,td,js.map jb⟩) rfl ⟨by dsimp only;omega,B,q,j,by dsimp only;omega,by dsimp only;rw[Ah];omega⟩ ?_;intro g I;obtain⟨⟨q1,q2,q3⟩,q4,q5,q6,q7⟩:=ha g I;have a:=QC I.1;obtain⟨u1,u2,u3⟩:=X _ _ q6 (by omega) (by have:=a.todo;rw[q1]at this;omega);obtain⟨v1,v2,v3⟩:=f4 _ _ u2 (by omega);obtain⟨w1,w2,w3⟩:=g4 (g.Ay.map up) [] (by rw[v2,List.append_nil]) (by rw[Ah];have:=a.P1;rw[q1,H]at this;omega);have hj:js.map jb=g.Ay:=by
  rw[w1,List.map_map]
  conv=>rhs;rw[<-List.map_id g.Ay]
  apply List.map_congr_left;intro y hy;have:=a.job y hy;exact AUL this.1 this.2
 refine⟨?_,by dsimp only[rd];rw[w3,v3,u3,q7]⟩;rw[hj,v1];cases g
 grind
theorem AUk(X:Dd R.1=true){ps:List AQ}{k:Nat}{b:Bool}(hk:k<=l.length)(hps:ps.length<=40)
 (ha:∀g,Good g l->Hd g R.1 now turn/\g.AG=ps/\l.drop k=tl3 g 0/\b=false) :
 ∃r,dn l R ((),R.1.CK,R.1.Room,R.1.A5,R.1.CD,R.1.Bq,R.1.Rest,R.1.CP,R.1.Cr,now,turn,ps,[],[],[],rd l k b)=some r/\Red l r:=by
 have O:=B2 X;unfold dn;dsimp only;refine JB (n:=R.1.AW.length) (fun i (v:List Ad×Nat×Bool)=>((i:Int),(),R.1.CK,R.1.Room,R.1.A5,R.1.CD,R.1.Bq,R.1.Rest,R.1.CP,R.1.Cr,now,turn,ps,v.1,[],[],rd l v.2.1 v.2.2))
  (fun i v=>v.1.length=i/\(∀c∈v.1,EU c)/\v.2.1<=l.length/\∀g,Good g l->Hd g R.1 now turn/\g.AG=ps/\v.1=g.AH.take i/\l.drop v.2.1=tl3 g i/\v.2.2=false)
  (Red l) (by omega) ?_ (v:=([],k,b)) ⟨rfl,by simp,hk,fun g j=>by obtain⟨h1,h2,h3,h4⟩:=ha g j;exact⟨h1,h2,by simp,h3,h4⟩⟩
 rintro L i ⟨cs,q,c⟩ ⟨S,gf,H,I⟩ hi Y;dsimp only at S gf H I Y ⊢;unfold xF;dsimp only;rcases AV i R.1.AW.length with h|h
 .have hseat:=O.2.2.2.2.2.1 _ (BC h);have hD:R.1.AW.getD i 0=R.1.AW[i]:=by simp[List.getD,h]
  obtain⟨a,q',c',e1,e2,e3,e4,e5⟩:=aA (b:=c) hl H (m:=R.1.AW[i]) (by omega);have J:(FO ps (i:Int)).length<=1048576:=by
   unfold FO;rw[HF];have:=Bh (MH (i:Int)) ps;omega
  have hlim:lim=268435456:=rfl;rw[Bw h,BP,A9 h];simp only[AB,e1,Sy (show ps.length<=1048576 by omega),tG J,Oq (show ps.length<2 ^ 58 by omega),Ot (show ps.length<2 ^ 58 by omega),CQ,Ic,Ie,Ig,Ih,H5,Ii,Ij,NG (r:=R.1) (show R.1.AW.length<2 ^ 62 by omega) (show ps.length<=1048576 by omega)];rw[Bt (by rw[KD];omega),BX h (by omega)];have B:Ad.mk (A3.mk R.1.AW[i] a (Im ps i) (w64 (w64 (R.1.AW[i]-a)-Im ps i)) (JC ps i)) (DM R.1 ps i now) (Lj (FO ps i)).1=iK R.1 ps now i a:=by unfold iK;rw[hD]
  rw[B];refine Y (cs++[iK R.1 ps now i a],q',c') ⟨by simp[S],?_,e2,fun g j=>?_⟩ h
  .intro x E;rcases List.mem_append.1 E with E|E
   .exact gf x E
   .rw[Ds.1 E];refine⟨?_,Zw _⟩;unfold iK DM;dsimp only;rw[HF];have:=Bh (Kx R.1 (i:Int) now) ps;omega
  .obtain⟨⟨p1,p2,p3⟩,p4,p5,G,Q⟩:=I g j;have e:=QC j.1;have y:i<g.AH.length:=by rw[e.De,p1];exact h
   obtain⟨w1,w2,Z,w4⟩:=e.cab i y;unfold tl3 at G;rw[Dw y,AJ]at G;obtain⟨u1,u2,u3⟩:=e5 _ _ G w2 (by rw[p1,hD]at Z;exact Z);refine⟨⟨p1,p2,p3⟩,p4,?_,u2,u3.trans Q⟩;rw[Cd,AU y,p5,u1];rw[p1,p4,p2]at w1
   conv=>rhs;rw[w1]
   rfl
 .obtain rfl:i=R.1.AW.length:=by omega
  rw[Cc,BS,AT];refine AUh hl X H (by omega) (by omega) gf fun g j=>?_
  obtain⟨p1,p4,p5,G,Q⟩:=I g j;have e:=QC j.1;have hn:g.AH.length=R.1.AW.length:=by rw[e.De,p1.1]
  refine⟨p1,p4,?_,?_,Q⟩
  .rw[p5,BE (by omega)]
  .rw[G];unfold tl3;rw[BI (by omega)];rfl
theorem AUj(Y:Dd R.1=true){n:Int}{x:Int×C9}(hx:x.1=n)(O:0<=n)(hn:n<=40){k:Nat}{b:Bool}(hk:k<=l.length)
 (ha:∀g,Good g l->Hd g R.1 now turn/\(g.AG.length:Int)=n/\l.drop k=tl2 g 0/\b=false) :
 ∃r,A7 (dq l R x) big (0,(),R.1.CK,R.1.Room,R.1.A5,R.1.CD,R.1.Bq,R.1.Rest,R.1.CP,R.1.Cr,now,turn,[],[],[],[],rd l k b)=some r/\Red l r:=by
 have hrl:=B2 Y;obtain⟨m,rfl⟩:=AZ O;refine JB (n:=m) (fun i (v:List AQ×Nat×Bool)=>((i:Int),(),R.1.CK,R.1.Room,R.1.A5,R.1.CD,R.1.Bq,R.1.Rest,R.1.CP,R.1.Cr,now,turn,v.1,[],[],[],rd l v.2.1 v.2.2))
  (fun i v=>v.1.length=i/\v.2.1<=l.length/\∀g,Good g l->Hd g R.1 now turn/\g.AG.length=m/\v.1=g.AG.take i/\l.drop v.2.1=tl2 g i/\v.2.2=false)
  (Red l) (by omega) ?_ (v:=([],k,b)) ⟨rfl,hk,fun g a=>by obtain⟨h1,h2,h3,h4⟩:=ha g a;exact⟨h1,by omega,by simp,h3,h4⟩⟩
 rintro L i ⟨ps,q,c⟩ ⟨X,J,B⟩ hi Z;dsimp only at X J B Z ⊢;unfold dq;dsimp only;rw[hx];rcases AV i m with h|h
 .obtain⟨p,q',S,e1,e2,e3⟩:=ARX (b:=c) hl J;rw[Bw h,BP,e1,AB];dsimp only;rw[NF (by omega),AB,BN];have E:∀g,Good g l->p=g.AG.getD i ⟨0,0,0,0,0,0,0,0,0,0⟩/\i<g.AG.length/\l.drop q'=tl2 g (i+1)/\S=false:=by
   intro g a;obtain⟨p1,p2,p3,p4,p5⟩:=B g a;have j:i<g.AG.length:=by omega
   have G:=Ed ((QC a.1).par i j);have hs:=(B2 G.1).1;unfold tl2 at p4;rw[Dw j,List.flatMap_cons,Bv]at p4;obtain⟨H,y,I⟩:=e3 _ _ p4 G.2.2.2.2.1.1 (by omega);refine⟨?_,j,y,I.trans p5⟩;rw[H];simp[List.getD,j]
  cases Q:DL R.1 p now with
  |true=>
   have hlim:lim=268435456:=rfl;rw[BP,Bt (by rw[KD];omega),BX h (by omega)];refine Z (ps++[p],q',S) ⟨by simp[X],e2,fun g a=>?_⟩ h;obtain⟨p1,p2,p3,p4,p5⟩:=B g a;obtain⟨H,y,I,u4⟩:=E g a;refine⟨p1,p2,?_,I,u4⟩;rw[Cd,AU y,p3,H];simp[List.getD,y]
  |false=>
   rw[BS];refine⟨_,rfl,Red.bad fun g a=>?_⟩;obtain⟨p1,p2,p3,p4,p5⟩:=B g a;obtain⟨H,y,I,u4⟩:=E g a;have:=(QC a.1).par i y;rw[H]at Q;have e:g.AG.getD i ⟨0,0,0,0,0,0,0,0,0,0⟩=g.AG[i]:=by simp[List.getD,y]
   rw[e,<-p1.1,<-p1.2.1,this]at Q;cases Q
 .obtain rfl:i=m:=by omega
  rw[Cc,BS,AT];refine AUk hl Y J (by omega) fun g a=>?_
  obtain⟨p1,p2,p3,p4,p5⟩:=B g a;refine⟨p1,?_,?_,p5⟩
  .rw[p3,BE (by omega)]
  .rw[p4];unfold tl2;rw[BI (by omega)];rfl
end spec
theorem s7{l:List Int}(hl:l.length<=1048576):∃r,xE l=some r/\Red l r:=by
 unfold xE;obtain⟨sz,k1,q,I,J,a3,a4,L⟩:=aA (l:=l) (k:=0) (b:=false) hl (Nat.zero_le _) (m:=12) (by omega);obtain⟨s,rfl⟩:=AZ a3;obtain⟨xs,k2,y,S,X,c3,c4⟩:=rh (b:=q) hl J (n:=s) (by omega);have h:ZJ (C9.mk l 0 false) 12=some ((s:Int),rd l k1 q):=I;rw[h,AB];dsimp only;rw[S,AB];dsimp only;rw[tE (by omega),AB,BN];have e:∀g,Good g l->xs=Kn g.AR/\l.drop k2=g.Now::g.As::(g.AG.length:Int)::tl2 g 0/\y=false:=by
  intro g c;have hn:=mL c;have B:=QB g.AR;have a:=QC c.1;obtain⟨E,G,H⟩:=L _ _ (by rw[Cb];exact hn) (by omega) (by have:=a.Df;omega)
  grind
 cases hR:(Kq xs).2 with
 |false=>
  rw[BS];refine⟨_,rfl,Red.bad fun g c=>?_⟩;rw[(e g c).1,NC (QC c.1).rules]at hR;cases hR
 |true=>
  rw[BP];have j:=(jC hR).1;obtain⟨n1,k3,O,Y,Z,d3⟩:=rb (b:=y) hl X;obtain⟨n2,k4,Q,f1,f2,f3⟩:=rb (b:=O) hl Z;obtain⟨n3,k5,b5,g1,g2,g3,g4,g5⟩:=aA (b:=Q) hl f2 (m:=40) (by omega);simp only[Y,AB,CQ,Ic,Ie,Ig,Ih,H5,Ii,Ij,ta,f1,g1];refine AUj hl j (now:=n1) (turn:=n2) rfl g3 g4 g2 fun g c=>?_
  obtain⟨q1,q2,q3⟩:=e g c;have a:=QC c.1;obtain⟨E,G,H⟩:=d3 _ _ q2;obtain⟨v1,v2,v3⟩:=f3 _ _ G;obtain⟨w1,w2,w3⟩:=g5 _ _ v2 (by omega) (by have:=a.few;omega);refine⟨⟨?_,E.symm,v1.symm⟩,w1.symm,w2,by rw[w3,v3,H,q3]⟩;rw[q1,NC a.rules]
end Lv.P
