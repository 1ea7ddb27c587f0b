/- Plain laws about what the program computes. -/
import Derived.Test.YtcmjfplpdjflnaaGreatKDb
import Derived.Test.YtcmjfplpdjflnaaGreatPEb
noncomputable section
set_option linter.unusedVariables false
set_option linter.unusedSimpArgs false
set_option linter.unusedSectionVars false
open Bool renaming and_eq_true->AF,not_eq_true'->BG
open Int renaming eq_ofNat_of_zero_le->As,toNat_natCast->Ad
open List renaming append_assoc->CD,drop_eq_nil_of_le->A9,drop_zero->Cn,ext_getElem->Ja,filter_append->Iw,filter_cons->ER,flatten_cons->ED,getElem?_eq_getElem->AT,getElem_map->Jb,getElem_mem->Au,getElem_range->Iy,length_cons->AI,length_filterMap_le->CI,length_map->Aj,length_take->BS,map_cons->AJ,map_eq_flatMap->IN,mem_cons->Ap,mem_cons_of_mem->Av,mem_cons_self->Bc,mem_flatten->ES,mem_iff_getElem->Fh,mem_singleton->D5,pairwise_cons->BU,pairwise_singleton->HK,take_add_one->B6,take_of_length_le->BI,take_sublist->Gt
open List.cons renaming injEq->CY
open Nat renaming le_refl->Ae,lt_or_ge->AZ
namespace Lv.P
open Lv Go
def W5(w:A0)(p:BH):A0:=⟨w.Ao.set (p.At.tmod 9).toNat (put ltP p (w.Ao.getD (p.At.tmod 9).toNat []))⟩
def PU(w:A0)(p:BH):A0×Bool:=if H5 w=true/\QG p=true/\H5 (W5 w p)=true then (W5 w p,true) else (w,false)
theorem MS{p:BH}(h:QG p=true):(1<=p.At/\p.At<=1000008)/\1<=p.Id/\p.Id<=999:=by
 grind[QG,CQ]
theorem Zm{n:Int}(h:1<=n):∃k:Nat,k<9/\n.tmod 9=(k:Int):=by
 obtain⟨m,rfl⟩:=As (show 0<=n by omega);refine⟨m % 9,Nat.mod_lt _ (by omega),?_⟩;rw[Int.tmod_eq_emod_of_nonneg (by omega)];rfl
theorem AA4{α:Type}{l:List (List α)}{k:Nat}(h:k<l.length)(x:List α):(l.set k x).flatten.length+l[k].length=l.flatten.length+x.length:=by
 grind[List.set_eq_take_append_cons_drop,List.take_append_drop,List.drop_eq_getElem_cons]
theorem AWx{α:Type}{l:List (List α)}{k:Nat}(h:k<l.length){x:List α}{a:α}(c:a∈x):a∈(l.set k x).flatten:=by
 rw[ES];exact⟨x,List.mem_set h _,c⟩
theorem kX{w:A0}(g:Nv w){p:BH}(j:1<=p.At):DW (W5 w p)/\p∈(W5 w p).Ao.flatten:=by
 obtain⟨k,B,e⟩:=Zm j;have q:=g.nine;have y:=g.few;unfold W5;rw[e,Ad];have a:k<w.Ao.length:=by omega
 have h:=AA4 a (put ltP p (w.Ao.getD k []));have c:w.Ao.getD k []=w.Ao[k]:=by simp[List.getD,a]
 rw[c,FX]at h;refine⟨⟨by dsimp only;rw[List.length_set];omega,by dsimp only;rw[c];omega⟩,AWx a (Sp.2 (.inl rfl))⟩
theorem TX{w:A0}(g:DW w)(p:BH):dC w p=some (PU w p):=by
 unfold dC dE;rw[SN g,AB,KJ g,AB,BB];by_cases hB:H5 w=true
 .have hP:=Dr.1 hB;rw[hB,BK,AV,BQ];by_cases j:p.At<1
  .rw[AX j];unfold PU;rw[AU];rintro⟨_,c,_⟩;have:=MS c;omega
  .rw[AU j];obtain⟨q,B⟩:=kX hP (p:=p) (by omega);obtain⟨k,H,e⟩:=Zm (n:=p.At) (by omega);have G:=hP.nine;have y:=hP.few;have a:k<w.Ao.length:=by omega
   have c:w.Ao.getD k []=w.Ao[k]:=by simp[List.getD,a]
   have E:=Ir a;have h:(A0.mk (w.Ao.set k (put ltP p w.Ao[k])))=W5 w p:=by unfold W5;rw[e,Ad,c]
   simp only[e,BJ a,AB,UK (l:=w.Ao[k]) (by unfold lim;omega) p,Ad,h,KJ q,SN g,BB];unfold PU;cases hB2:H5 (W5 w p) with
   |false=>rw[BL,AU (by simp)]|true=>
    rw[BK,AX ⟨hB,(Dr.1 hB2).pins p B,rfl⟩]
 grind[BL,AV,BK,PU]
theorem TM{w:A0}(E:DW w)(p:BH):y4 w p=some (PU w p):=by
 unfold y4 dI;rw[SM E,AB,J6 E,AB,BB];by_cases hB:H5 w=true
 .have hP:=Dr.1 hB;rw[hB,BK,T4,AB,AV,BB];cases B:QG p with
  |false=>
   rw[BL];unfold PU;rw[B,AU (by simp)]
  |true=>
   have j:=(MS B).1.1;rw[BK];obtain⟨I,hm⟩:=kX hP j;obtain⟨k,Z,e⟩:=Zm j;have X:=hP.nine;have J:=hP.few;have a:k<w.Ao.length:=by omega
   have H:w.Ao.getD k []=w.Ao[k]:=by simp[List.getD,a]
   have S:=Ir a;have G:(A0.mk (w.Ao.set k (put ltP p w.Ao[k])))=W5 w p:=by unfold W5;rw[e,Ad,H]
   have h:∀i:Nat,i<=w.Ao[k].length->∀s:List BH,s=w.Ao[k].take i++p::w.Ao[k].drop i->dJ w p w w.Ao[k] (i:Int)=(bd (TC (A0.mk (w.Ao.set k s))) fun x=>br (!x) (some (w,false)) (some (A0.mk (w.Ao.set k s),true))):=by
    intro i hi s Q;have g:AXJ w.Ao[k] (i:Int) [p]=@some (C.l (.st 5)).D s:=by
     show kq (.st 5) w.Ao[k] (i:Int) [p]=some s;have q:(0:Int)<=i/\(i:Int).toNat<=w.Ao[k].length/\[p]≠([]:List BH)/\w.Ao[k].length+[p].length<=lim:=⟨by omega,by simpa using hi,by simp,by rw[Li];unfold lim;omega⟩;unfold kq;refine(AX q).trans ?_;rw[Q,Ad];congr 1;exact CD _ _ _
    unfold dJ;have O:Y.N4 k 0 [U.sl (C.st 5) s].length [(k,0)]:=⟨rfl,⟨Ae _,by simp⟩,trivial⟩;rw[g];refine(AB (α:=List BH) s _).trans ?_;simp only[e,BJ a,AB,Ad,B8 O,SM E]
   simp only[e,BJ a,AB];have hloop:=Rv (lt:=ltP) (F:=VH w p w w.Ao[k]) (l:=w.Ao[k]) (x:=p) (fun s=>bd (TC (A0.mk (w.Ao.set k s))) fun x=>br (!x) (some (w,false)) (some (A0.mk (w.Ao.set k s),true))) (by omega) ?_ ?_
   .rw[hloop,G,J6 I,AB,BB];unfold PU;cases hB2:H5 (W5 w p) with|false=>rw[BL,AU (by simp)]|true=>rw[BK,AX ⟨hB,B,rfl⟩]
   .intro L i hi;unfold VH VG;obtain⟨c,q,y,_⟩:=Me w.Ao[k][i] p;rw[B4 hi,BK,BJ hi,AB,q,AB,AV,y,AV,h i (by omega) _ rfl]
   .intro L;unfold VH VG;rw[C0,BL,AV,BL,AV,h _ (Ae _) (w.Ao[k]++[p]) (by simp)]
 grind[BL,AV,BK,PU]
theorem ACp{w:A0}(a:DW w)(p:BH):DW (PU w p).1:=by
 grind[PU,kX,Dr,MS]
def Tc:List BH->A0->A0×Bool| [],w=>(w,true)|p::ps,w=>if (PU w p).2=true then Tc ps (PU w p).1 else (⟨[]⟩,false)
def LB(l:List BH):A0×Bool:=Tc l ⟨List.replicate 9 []⟩
theorem kV:DW ⟨List.replicate 9 []⟩:=by constructor<;>simp
theorem oX{l:List BH}{F:(Int×A0->AA (A0×Bool))->Int×A0->AA (A0×Bool)}(hl:l.length<2 ^ 62)
 (step:∀L (i:Nat) (h:i<l.length) w,DW w->F L ((i:Int),w)=br (!(PU w l[i]).2) (some (⟨[]⟩,false)) (L (w64 ((i:Int)+1),(PU w l[i]).1)))
 (stop:∀L w,F L ((l.length:Int),w)=some (w,true)):A3 F big (0,⟨List.replicate 9 []⟩)=some (LB l):=by
 refine(C1 (n:=l.length) (fun i (w:A0)=>((i:Int),w)) (fun _ w=>DW w) (fun i w=>some (Tc (l.drop i) w)) (by omega) ?_ (v:=⟨List.replicate 9 []⟩) kV).trans (by simp[LB]);intro L i w a hi c;rcases AZ i l.length with h|h
 .rw[step L i h w a,Bt h (by omega),DR h,Tc,BB];cases e:(PU w l[i]).2 with|true=>rw[BK,c _ (ACp a _) h];rfl|false=>rfl
 grind[Tc]
theorem uY{l:List BH}(hl:l.length<=1048576):AHh l=some (LB l):=by
 unfold AHh;rw[jD,AB];refine oX (by omega) ?_ ?_
 .intro L i h w a;unfold eD
  grind[BK,BJ,AB,TX,Ce]
 grind[eD,zX,BL,AV]
theorem sb{l:List BH}(hl:l.length<=1048576):AHd l=some (LB l):=by
 unfold AHd;rw[jC,AB]
 grind[oX,zQ,BK,BJ,AB,TM,zP,BL,AV]
theorem oY:∀(l:List BH) {w:A0},DW w->DW (Tc l w).1
 | [],w,a=>a|p::ps,w,a=>by
  unfold Tc;split
  .exact oY ps (ACp a p)
  .constructor<;>simp
theorem Zn(l:List BH):DW (LB l).1:=oY l kV
section
variable{α:Type}{lt:α->α->Bool}
theorem Gv(a:α)(l:List α):DK lt (a::l)=put lt a (DK lt l):=rfl
theorem ie(h:Swo lt)(B:∀a b,lt a b=false->lt b a=false->a=b){g j:List α}(q:g.Perm j):DK lt g=DK lt j:=by
 induction q with
 |nil=>rfl|cons x _ E=>rw[Gv,Gv,E]|swap x y l=>rw[Gv,Gv,Gv,Gv,tt h B]|trans _ _ c e=>exact c.trans e
theorem ABw{a:α}{l:List α}(h:∀b∈l,lt b a=false):put lt a l=a::l:=by
 cases l with
 |nil=>rfl|cons z l=>rw[put,AU (by rw[h z (Bc ..)];simp)]
theorem ABx{a:α}:∀{l:List α},(∀b∈l,lt b a=true)->put lt a l=l++[a]
 | [],_=>rfl|z::l,h=>by
  rw[put,AX (h z (Bc ..)),ABx fun b c=>h b (Av _ c)];rfl
theorem oK(h:Swo lt){a z:α}{l:List α}(y:Srt lt (z::l))(j:lt z a=false):∀b∈z::l,lt b a=false:=by
 intro b g;rcases Ap.1 g with rfl|g
 .exact j
 .have q:=(BU.1 y).1 b g;cases e:lt b a with
  |false=>rfl|true=>
   rcases h.neg b z a e with c|c
   .rw[q]at c;cases c
   .rw[j]at c;cases c
theorem AJi(h:Swo lt)(a:α):∀{l:List α},Srt lt l->Srt lt (put lt a l)
 | [],_=>HK _ _|z::l,c=>by
  rw[put];split
  .rename_i g;refine BU.2 ⟨?_,AJi h a (BU.1 c).2⟩;intro b e;rcases Sp.1 e with rfl|e
   .exact h.o9 _ _ g
   .exact(BU.1 c).1 b e
  .rename_i g;exact BU.2 ⟨oK h c (by simpa using g),c⟩
theorem Sb(h:Swo lt):∀l:List α,Srt lt (DK lt l)| []=>List.Pairwise.nil|a::l=>AJi h a (Sb h l)
theorem Tq(h:Swo lt)(q:α->Bool)(a:α):∀{l:List α},Srt lt l->(put lt a l).filter q=if q a=true then put lt a (l.filter q) else l.filter q
 | [],_=>by by_cases e:q a=true<;>simp[put,e]|z::l,c=>by
  have j:=Tq h q a (BU.1 c).2;rw[put];split
  .grind[put]
  .rename_i g;have habove:=oK h c (by simpa using g);rw[ER]
   grind[ABw]
theorem MN(h:Swo lt)(q:α->Bool):∀l:List α,(DK lt l).filter q=DK lt (l.filter q)
 | []=>rfl|a::l=>by
  rw[Gv,Tq h q a (Sb h l),MN h q l,ER]
  grind[Gv]
theorem Ow(h:Swo lt):∀{l:List α},(l.Pairwise fun a b=>lt a b=true)->DK lt l=l
 | [],_=>rfl|a::l,c=>by
  rw[Gv,Ow h (BU.1 c).2,ABw];intro b e;exact h.o9 _ _ ((BU.1 c).1 b e)
theorem Mv(h:Swo lt):∀{l:List α},(∀k (q:k+1<l.length),lt l[k] l[k+1]=true)->l.Pairwise fun a b=>lt a b=true
 | [],_=>List.Pairwise.nil| [a],_=>HK _ _|a::b::l,j=>by
  have y:=Mv h (l:=b::l) fun k q=>j (k+1) (by simpa using q)
  have g:lt a b=true:=j 0 (by simp);refine BU.2 ⟨?_,y⟩;intro c e;rcases Ap.1 e with rfl|e
  .exact g
  .exact h.trans g ((BU.1 y).1 c e)
end
theorem WJ{α β:Type}{f g:β->List α}:∀{l:List β},(∀i∈l,(f i).Sublist (g i))->(l.map f).flatten.Sublist (l.map g).flatten
 | [],_=>List.Sublist.slnil|i::l,h=>by
  simp only[AJ,ED];exact(h i (Bc ..)).append (WJ fun j a=>h j (Av _ a))
def Ff(i:Nat)(p:BH):Bool:=p.At.tmod 9==(i:Int)
theorem Jk{i:Nat}{p:BH}:Ff i p=true↔p.At.tmod 9=(i:Int):=by unfold Ff;exact beq_iff_eq
theorem UM{w:A0}(B:Nv w){i:Nat}(hi:i<w.Ao.length):(w.Ao.flatten).filter (Ff i)=w.Ao[i]:=by
 have g:∀j (a:j<w.Ao.length),∀p∈w.Ao[j],p.At.tmod 9=(j:Int):=by
  intro j a p c;obtain⟨k,h,rfl⟩:=Fh.1 c;exact B.at_ j a k h
 have e:w.Ao.flatten=(w.Ao.take i).flatten++(w.Ao[i]++(w.Ao.drop (i+1)).flatten):=by
  conv=>lhs;rw[<-List.take_append_drop i w.Ao,List.drop_eq_getElem_cons hi]
  simp only[List.flatten_append,ED]
 have E:((w.Ao.take i).flatten).filter (Ff i)=[]:=by
  grind[List.filter_eq_nil_iff,List.mem_flatten,List.mem_iff_getElem,Jk]
 have G:((w.Ao.drop (i+1)).flatten).filter (Ff i)=[]:=by
  rw[List.filter_eq_nil_iff];intro p c;obtain⟨s,y,q⟩:=ES.1 c;obtain⟨j,a,rfl⟩:=Fh.1 y
  grind[Jk]
 grind[Ff,List.filter_eq_self]
def W0(S:List BH)(j:Nat):A0:=⟨(List.range 9).map fun i=>(S.take j).filter (Ff i)⟩
theorem Yp{w:A0}(a:Nv w):w=⟨(List.range 9).map fun i=>(DK ltP w.Ao.flatten).filter (Ff i)⟩:=by
 have e:=a.nine;cases w with
 |mk sp=>
  congr 1;dsimp only at e a ⊢;apply Ja
  .simp[e]
  .intro i c g;rw[Jb,Iy,MN Ei,UM a c];exact(Ow Ei (Mv Ei (a.srt i c))).symm
theorem ATJ{w:A0}(e:Nv w)(j:Nat):Nv (W0 (DK ltP w.Ao.flatten) j):=by
 have c:(W0 (DK ltP w.Ao.flatten) j).Ao.flatten.Sublist w.Ao.flatten:=by
  conv=>rhs;rw[Yp e]
  exact WJ fun i _=>(Gt _ _).filter _
 have E:∀i (h:i<(W0 (DK ltP w.Ao.flatten) j).Ao.length),(W0 (DK ltP w.Ao.flatten) j).Ao[i]=((DK ltP w.Ao.flatten).take j).filter (Ff i):=by
  intro i h;simp only[W0,Jb,Iy]
 have q:∀i,i<9->(((DK ltP w.Ao.flatten).take j).filter (Ff i)).Pairwise fun a b=>ltP a b=true:=by
  intro i hi;have g:i<w.Ao.length:=by rw[e.nine];exact hi
  have y:((DK ltP w.Ao.flatten).filter (Ff i))=w.Ao[i]:=by
   rw[MN Ei,UM e g];exact Ow Ei (Mv Ei (e.srt i g))
  refine List.Pairwise.sublist ((Gt _ _).filter _) ?_;rw[y];exact Mv Ei (e.srt i g)
 refine⟨by simp[W0],Nat.le_trans c.length_le e.few,fun p B=>e.pins p (c.subset B),e.ids.sublist c,?_,?_⟩
 .grind[ltP,Jk]
 grind[W0,List.pairwise_iff_getElem]
theorem AVH{w:A0}(h:Nv w){j:Nat}(L:j<(DK ltP w.Ao.flatten).length):W5 (W0 (DK ltP w.Ao.flatten) j) (DK ltP w.Ao.flatten)[j]=W0 (DK ltP w.Ao.flatten) (j+1):=by
 have I:(DK ltP w.Ao.flatten)[j]∈w.Ao.flatten:=Ox.1 (Au L);obtain⟨k,O,e⟩:=Zm (MS (h.pins _ I)).1.1;have Q:(DK ltP w.Ao.flatten).Pairwise fun a b=>ltP b a=false:=Sb Ei _
 have J:(DK ltP w.Ao.flatten).take (j+1)=(DK ltP w.Ao.flatten).take j++[(DK ltP w.Ao.flatten)[j]]:=by rw[B6,AT L];rfl
 generalize hS:DK ltP w.Ao.flatten=S at *;have g:∀(q:BH->Bool),q S[j]=true->(∀b∈(S.take j).filter q,ltP b S[j]=true)->put ltP S[j] ((S.take j).filter q)=(S.take (j+1)).filter q:=by
  intro q Z c;rw[ABx c,J,Iw];simp[Z]
 have H:∀b∈(S.take j).filter (Ff k),ltP b S[j]=true:=by
  intro b Y;have E:k<w.Ao.length:=by rw[h.nine];exact O
  have y:S.filter (Ff k)=w.Ao[k]:=by
   rw[<-hS,MN Ei,UM h E];exact Ow Ei (Mv Ei (h.srt k E))
  have B:((S.take (j+1)).filter (Ff k)).Pairwise fun a b=>ltP a b=true:=by
   refine List.Pairwise.sublist ((Gt _ _).filter _) ?_;rw[y];exact Mv Ei (h.srt k E)
  rw[J,Iw]at B;have X:([S[j]]:List BH).filter (Ff k)=[S[j]]:=by simp[Jk.2 e]
  rw[X]at B;exact(List.pairwise_append.1 B).2.2 b Y _ (D5.2 rfl)
 unfold W5 W0;rw[e,Ad];congr 1;apply Ja
 .simp
 .intro i h1 y;have hi:i<9:=by simpa using y
  rw[List.getElem_set];have hD:(((List.range 9).map fun i=>(S.take j).filter (Ff i)).getD k [])=(S.take j).filter (Ff k):=by simp[List.getD,O]
  split
  .rename_i G;subst G;rw[hD,g _ (Jk.2 e) H];simp
  .grind[Jk]
theorem lD{w:A0}(c:Nv w):LB (DK ltP w.Ao.flatten)=(w,true):=by
 have key:∀m j,j+m=(DK ltP w.Ao.flatten).length->Tc ((DK ltP w.Ao.flatten).drop j) (W0 (DK ltP w.Ao.flatten) j)=(w,true):=by
  intro m
  induction m with
  |zero=>
   grind[Tc,W0,Yp]
  |succ m g=>
   intro j h;have a:j<(DK ltP w.Ao.flatten).length:=by omega
   have e:PU (W0 (DK ltP w.Ao.flatten) j) (DK ltP w.Ao.flatten)[j]=(W0 (DK ltP w.Ao.flatten) (j+1),true):=by
    unfold PU;rw[AVH c a,AX];exact⟨Dr.2 (ATJ c j),c.pins _ (Ox.1 (Au a)),Dr.2 (ATJ c (j+1))⟩
   rw[DR a,Tc,e,AX rfl];exact g (j+1) (by omega)
 have:=key (DK ltP w.Ao.flatten).length 0 (by omega);rw[Cn]at this;exact this
def Good(h:AE)(l:List Int):Prop:=D8 h=true/\B0 h/\HY h=l
def vA:Aa:=⟨[],0,0,0,0,0,0,0,0⟩
def Lr:AE:=⟨vA,0,0,[],[],[],[]⟩
def Red(l:List Int)(r:AE×Bool):Prop:=(r.2=true->Good r.1 l/\∀h,Good h l->h=r.1)/\(r.2=false->r.1=Lr/\∀h,¬Good h l)
theorem Red.one{l:List Int}{r r':AE×Bool}(h:Red l r)(j:Red l r'):r=r':=by
 obtain⟨g,b⟩:=r;obtain⟨g',e⟩:=r';obtain⟨q,a⟩:=h;obtain⟨y,c⟩:=j;dsimp only at q a y c;cases b<;>cases e
 .rw[(a rfl).1,(c rfl).1]
 .grind
 .grind
 grind
theorem Red.bad{l:List Int}(h:∀h,¬Good h l):Red l (Lr,false):=⟨fun h=>(by cases h),fun _=>⟨rfl,h⟩⟩
def fr(c:Ab):Int:=c.AW.Db
def up(x:Int):Int:=w64 (x+1)
theorem ASy(h:AE):HY h=((KG h.AQ).length:Int)::(KG h.AQ++(h.Now::h.Az::(h.AG.length:Int)::(h.AG.flatMap MG++(h.AH.map fr++((h.BF.length:Int)::(h.BF++h.BC.map up)))))):=by
 have a:∀l:List Ab,l.flatMap (fun c=>[c.AW.Db])=l.map fr:=fun l=>by rw[IN];rfl
 have e:∀l:List Int,l.flatMap (fun x=>[w64 (x+1)])=l.map up:=fun l=>by rw[IN];rfl
 grind[HY]
def i7(r:Aa)(ps:List AN)(now:Int)(i:Nat)(free:Int):Ab:=
 ⟨⟨r.AW.getD i 0,free,IY ps i,w64 (w64 (r.AW.getD i 0-free)-IY ps i),I1 ps i⟩,Dq r ps i now,(LB (Fu ps i)).1⟩
theorem AU8{t:List Int}{n:Nat}(H:n<=4)(h:Ig t n=true):t.length<=n:=by
 by_cases c:t.length<=n
 .exact c
 .exfalso;have a:∀k (B:k<t.length),0<=t[k]/\t[k]<n/\∀j (G:j<k),t[j]≠t[k]:=by
   intro k B;have y:=Jo.1 h k B;unfold SC at y;rw[CS B,AF,CQ,Ah (by omega) (by omega)]at y;refine⟨y.1.1,by omega,fun j G e=>?_⟩;have E:=y.2;simp only[BG,List.any_eq_false,beq_iff_eq]at E;refine E t[j] ?_ e;rw[Fh];exact⟨j,by rw[BS];omega,by rw[List.getElem_take]⟩
  have I:=a 0 (by omega)
  match n,H,c,a with
  |0,_,c,a=>have:=a 0 (by omega);omega|1,_,c,a=>
   have a0:=a 0 (by omega);have g:=a 1 (by omega);have:=g.2.2 0 (by omega);omega
  |2,_,c,a=>
   have a0:=a 0 (by omega);have g:=a 1 (by omega);have q:=a 2 (by omega);have:=g.2.2 0 (by omega);have:=q.2.2 0 (by omega);have:=q.2.2 1 (by omega);omega
  |3,_,c,a=>
   have a0:=a 0 (by omega);have g:=a 1 (by omega);have q:=a 2 (by omega);have a3:=a 3 (by omega);have:=g.2.2 0 (by omega);have:=q.2.2 0 (by omega);have:=q.2.2 1 (by omega);have:=a3.2.2 0 (by omega);have:=a3.2.2 1 (by omega);have:=a3.2.2 2 (by omega);omega
  |4,_,c,a=>
   have a0:=a 0 (by omega);have g:=a 1 (by omega);have q:=a 2 (by omega);have a3:=a 3 (by omega);have a4:=a 4 (by omega)
   grind
structure AbC(h:AE):Prop where
 rules:D4 h.AQ=true
 Dw:1<=h.AQ.AW.length/\h.AQ.AW.length<=4
 Abm:1<=h.AQ.Cx/\h.AQ.Cx<=3
 few:h.AG.length<=40
 par:∀i (hi:i<h.AG.length),Dp h.AQ h.AG[i] h.Now=true
 EU:h.AH.length=h.AQ.AW.length
 cab:∀i (hi:i<h.AH.length),h.AH[i]=i7 h.AQ h.AG h.Now i (fr h.AH[i])/\0<=fr h.AH[i]/\fr h.AH[i]<=h.AQ.AW.getD i 0/\DF h.AG i<=10
 todo:h.BF.length<=h.AQ.AW.length
 Rq:(h.BC.length:Int)=h.AQ.Cx
 job:∀x∈h.BC,-1<=x/\x<4
theorem tn{w:A0}(a:H5 w=true):(LB (FP w)).1=w:=by
 unfold FP;rw[AX a,lD (Dr.1 a)]
theorem PI{h:AE}(O:D8 h=true):AbC h:=by
 obtain⟨q,h2,h3,E,G,H,I,J,L,g⟩:=Kr O;have j:=CM q;have hcrew:1<=h.AQ.Cx/\h.AQ.Cx<=3:=j.2.2.2.2.2.2.2.2.2;refine⟨q,j.1,hcrew,E,?_,G,?_,?_,L,?_⟩
 .intro i hi;have:=Jo.1 H i hi;unfold ZU at this;rw[CS hi,AF]at this;exact this.1
 .intro i hi;have y:i<h.AQ.AW.length:=by omega
  have a:=Jo.1 g i hi;unfold Yw at a;rw[CS hi,CS y]at a;unfold Js Qu Et at a;simp only[AF,beq_iff_eq,CQ,BG,decide_eq_false_iff_not,Jq qM,Jq qO]at a;obtain⟨S,⟨⟨⟨l1,l2,l3,l4,l5,l6⟩,k3,X⟩,Y,Z,k7,k8⟩,k9⟩:=a;have hD:h.AQ.AW.getD i 0=h.AQ.AW[i]:=by simp[List.getD,y]
  have hroom:=j.2.2.1;have B:=tn X;rw[Z]at B;unfold i7 fr;rw[hD,<-Y,<-k7,<-k8,<-S,B];generalize h.AH[i]=c at *;obtain⟨⟨t,f,e,s,td⟩,row,wh⟩:=c;dsimp only at *;have e1:w64 (f+e)=f+e:=Ah (by omega) (by omega);have e2:w64 (f+e+s)=f+e+s:=Ah (by omega) (by omega)
  grind[Ah]
 .have:=AU8 (by omega) I;omega
 .intro x Q;have:=List.all_eq_true.1 J x Q;rw[CQ,Ah (by omega) (by omega)]at this;omega
def KI(l:List Int):Aa×Bool:=
 match l with
 |a::b::c::d::e::f::g::i::x::s=>if D4 ⟨x::s,a,b,c,d,e,f,g,i⟩=true then (⟨x::s,a,b,c,d,e,f,g,i⟩,true) else (vA,false)|_=>(vA,false)
theorem jj{l:List Int}(h:(KI l).2=true):D4 (KI l).1=true/\KG (KI l).1=l:=by
 unfold KI at *;split at h
 .split at h
  .rename_i a;rw[AX a];exact⟨a,rfl⟩
  .cases h
 .cases h
theorem MU{r:Aa}(h:D4 r=true):KI (KG r)=(r,true):=by
 have j:=(CM h).1.1;obtain⟨s,a,b,c,d,e,f,g,i⟩:=r
 match s,j with
 |x::s,_=>
  show (if D4 _=true then _ else _)=_;rw[AX h]
theorem uW{l:List Int}(hl:l.length<=1048576):AHf l=some (KI l):=by
 unfold AHf
 match l,hl with
 | [],_=>rfl| [_],_=>rfl| [_,_],_=>rfl| [_,_,_],_=>rfl| [_,_,_,_],_=>rfl| [_,_,_,_,_],_=>rfl| [_,_,_,_,_,_],_=>rfl| [_,_,_,_,_,_,_],_=>rfl| [_,_,_,_,_,_,_,_],_=>rfl|a::b::c::d::e::f::g::i::x::s,hl=>
  simp only[AI]at hl;have O:(x::s).length<2 ^ 62:=by simp only[AI];omega
  rw[BQ,AU (by simp only[AI];omega)];have h:at? (a::b::c::d::e::f::g::i::x::s) 0=some a:=rfl;have j:at? (a::b::c::d::e::f::g::i::x::s) 1=some b:=rfl;have q:at? (a::b::c::d::e::f::g::i::x::s) 2=some c:=rfl;have y:at? (a::b::c::d::e::f::g::i::x::s) 3=some d:=rfl;have B:at? (a::b::c::d::e::f::g::i::x::s) 4=some e:=rfl;have E:at? (a::b::c::d::e::f::g::i::x::s) 5=some f:=rfl;have G:at? (a::b::c::d::e::f::g::i::x::s) 6=some g:=rfl;have H:at? (a::b::c::d::e::f::g::i::x::s) 7=some i:=rfl;have I:List.drop (Int.toNat 8) (a::b::c::d::e::f::g::i::x::s)=x::s:=rfl;have J:(0:Int)<=8/\(8:Int)<=((a::b::c::d::e::f::g::i::x::s).length:Int):=by simp only[AI];omega
  have hlim:lim=268435456:=rfl;have L:0+(x::s).length<=lim:=by simp only[AI];omega
  simp only[h,j,q,y,B,E,G,H,I,AB,B8 J,B8 L,Ce,Ki,Kj,Kk,Kl,J4,Km,Kn,List.nil_append,Ip (r:=⟨x::s,a,b,c,d,e,f,g,i⟩) O,BB];unfold KI;dsimp only;cases D4 ⟨x::s,a,b,c,d,e,f,g,i⟩<;>rfl
theorem sa{l:List Int}(hl:l.length<=1048576):AHQ l=some (KI l):=by
 unfold AHQ
 match l,hl with
 | [],_=>rfl| [_],_=>rfl| [_,_],_=>rfl| [_,_,_],_=>rfl| [_,_,_,_],_=>rfl| [_,_,_,_,_],_=>rfl| [_,_,_,_,_,_],_=>rfl| [_,_,_,_,_,_,_],_=>rfl| [_,_,_,_,_,_,_,_],_=>rfl|a::b::c::d::e::f::g::i::x::s,hl=>
  simp only[AI]at hl;have O:(x::s).length<2 ^ 62:=by simp only[AI];omega
  rw[BQ,AU (by simp only[AI];omega)];have h:at? (a::b::c::d::e::f::g::i::x::s) 0=some a:=rfl;have j:at? (a::b::c::d::e::f::g::i::x::s) 1=some b:=rfl;have q:at? (a::b::c::d::e::f::g::i::x::s) 2=some c:=rfl;have y:at? (a::b::c::d::e::f::g::i::x::s) 3=some d:=rfl;have B:at? (a::b::c::d::e::f::g::i::x::s) 4=some e:=rfl;have E:at? (a::b::c::d::e::f::g::i::x::s) 5=some f:=rfl;have G:at? (a::b::c::d::e::f::g::i::x::s) 6=some g:=rfl;have H:at? (a::b::c::d::e::f::g::i::x::s) 7=some i:=rfl;have I:List.drop (Int.toNat 8) (a::b::c::d::e::f::g::i::x::s)=x::s:=rfl;have J:(0:Int)<=8/\(8:Int)<=((a::b::c::d::e::f::g::i::x::s).length:Int):=by simp only[AI];omega
  have L:Jh (x::s)=some (x::s):=SL (by simp only[AI];omega);simp only[h,j,q,y,B,E,G,H,I,AB,B8 J,L,Ce,Ki,Kj,Kk,Kl,J4,Km,Kn,Gk (r:=⟨x::s,a,b,c,d,e,f,g,i⟩) O,BB];unfold KI;dsimp only;cases D4 ⟨x::s,a,b,c,d,e,f,g,i⟩<;>rfl
theorem AWA(x y:Int):(x==y)=true↔x=y:=beq_iff_eq
theorem ACY{a b:List Int}(hl:a.length<2 ^ 62):AHi a b=some (Ic (·==·) a b):=by
 grind[AHi,Yk,zZ,BK,BJ,AB,zY,BL,AV]
theorem ABK{a b:List Int}(hl:a.length<2 ^ 62):AHe a b=some (Ic (·==·) a b):=by
 grind[AHe,Yk,zS,BK,BJ,AB,zR,BL,AV]
def rd(l:List Int)(k:Nat)(b:Bool):DN:=⟨l,(k:Int),b⟩
theorem s4{l:List Int}{k:Nat}{b:Bool}(hl:l.length<=1048576)(q:k<=l.length) :
 ∃n a c,Y7 (rd l k b)=some (n,rd l a c)/\a<=l.length/\∀x rest,l.drop k=x::rest->n=x/\l.drop a=rest/\c=b:=by
 unfold Y7;rw[BQ];rcases AZ k l.length with h|h
 .rw[AU (show ¬((rd l k b).at_>=((rd l k b).Rl.length:Int)) from by show ¬((k:Int)>=(l.length:Int));omega)];have g:w64 ((k:Int)+1)=((k+1:Nat):Int):=Bt h (by omega);have j:w64 (((k+1:Nat):Int)-1)=(k:Int):=by rw[Ah (by omega) (by omega)];omega
  show ∃n a c,(bd (at? l (w64 (w64 ((k:Int)+1)-1))) fun y=>some (y,DN.mk l (w64 ((k:Int)+1)) b))=_/\_;rw[g,j,BJ h,AB];refine⟨_,k+1,b,rfl,by omega,fun x rest e=>?_⟩
  grind[DR]
 .rw[AX (show (rd l k b).at_>=((rd l k b).Rl.length:Int) from by show (k:Int)>=(l.length:Int);omega)];refine⟨0,k,true,rfl,q,fun x rest e=>?_⟩;rw[A9 h]at e;cases e
theorem Z3{l:List Int}{k:Nat}{b:Bool}(hl:l.length<=1048576)(y:k<=l.length){m:Int}(B:0<=m) :
 ∃n a c,Y8 (rd l k b) m=some (n,rd l a c)/\a<=l.length/\0<=n/\n<=m/\∀x rest,l.drop k=x::rest->0<=x->x<=m->n=x/\l.drop a=rest/\c=b:=by
 obtain⟨n,a,c,g,h,q⟩:=s4 (b:=b) hl y;unfold Y8;rw[g,AB,GB,AB,BB];cases e:inB n 0 m with
 |true=>
  rw[CQ]at e;exact⟨n,a,c,rfl,h,e.1,e.2,fun x rest j _ _=>q x rest j⟩
 |false=>
  refine⟨0,a,true,rfl,h,by omega,B,fun x rest j E g=>?_⟩
  grind[inB]
theorem s7{l:List Int}{k:Nat}{b:Bool}(hl:l.length<=1048576)(Z:k<=l.length){n:Nat}(hn:n<=1048576) :
 ∃xs a e,Y9 (rd l k b) (n:Int)=some (xs,rd l a e)/\a<=l.length/\xs.length=n/\∀ys rest,l.drop k=ys++rest->ys.length=n->xs=ys/\l.drop a=rest/\e=b:=by
 unfold Y9;have key:=gx (F:=eC (n:Int)) (n:=n) (fun i (v:List Int×Nat×Bool)=>(v.1,(i:Int),rd l v.2.1 v.2.2))
  (fun i v=>v.1.length=i/\v.2.1<=l.length/\∀ys rest,l.drop k=ys++rest->ys.length=n->v.1=ys.take i/\l.drop v.2.1=ys.drop i++rest/\v.2.2=b)
  (fun r:List Int×DN=>∃a e,r.2=rd l a e/\a<=l.length/\r.1.length=n/\∀ys rest,l.drop k=ys++rest->ys.length=n->r.1=ys/\l.drop a=rest/\e=b) (by omega) ?_ (v:=([],k,b)) ⟨rfl,Z,fun ys rest h _=>⟨by simp,by simpa using h,rfl⟩⟩
 .obtain⟨r,hr,a,e,y,S,X,Y⟩:=key;exact⟨r.1,a,e,by rw[<-y];exact hr,S,X,Y⟩
 .rintro L i ⟨xs,q,c⟩ ⟨B,E,G⟩ hi H;dsimp only at B E G H ⊢;unfold eC;dsimp only;rcases AZ i n with h|h
  .obtain⟨x,q',I,J,O,Q⟩:=s4 (b:=c) hl E;have hlim:lim=268435456:=rfl;rw[B4 h,BK,J,AB,B8 (by rw[Li];omega),Bt h (by omega)];refine H (xs++[x],q',I) ⟨by simp[B],O,fun ys rest hy j=>?_⟩ h;obtain⟨p1,p2,p3⟩:=G ys rest hy j;have g:i<ys.length:=by omega
   rw[DR g]at p2;obtain⟨u1,u2,u3⟩:=Q _ _ p2;refine⟨?_,u2,u3.trans p3⟩;rw[p1,u1,B6,AT g];rfl
  .obtain rfl:i=n:=by omega
   rw[C0,BL,AV];unfold zW
   grind
theorem ten{α:Type}{l:List α}(h:l.length=10):∃a b c d e f g i j k,l=[a,b,c,d,e,f,g,i,j,k]:=by
 match l,h with
 | [a,b,c,d,e,f,g,i,j,k],_=>exact⟨a,b,c,d,e,f,g,i,j,k,rfl⟩
theorem AWe{l:List Int}{k:Nat}{b:Bool}(hl:l.length<=1048576)(hk:k<=l.length) :
 ∃p B E,AHg (rd l k b)=some (p,rd l B E)/\B<=l.length/\∀(q:AN) rest,l.drop k=MG q++rest -> -1<=q.Bi->q.Bi<=1048576->p=q/\l.drop B=rest/\E=b:=by
 obtain⟨xs,B,E,Z,h2,h3,h4⟩:=s7 (b:=b) hl hk (n:=10) (by omega);obtain⟨a0,c,a,a3,a4,e,g,h,j,y,rfl⟩:=ten h3;unfold AHg;rw[show (10:Int)=((10:Nat):Int) from rfl,Z,AB];have G:at? [a0,c,a,a3,a4,e,g,h,j,y] 0=some a0:=rfl;have H:at? [a0,c,a,a3,a4,e,g,h,j,y] 1=some c:=rfl;have I:at? [a0,c,a,a3,a4,e,g,h,j,y] 2=some a:=rfl;have J:at? [a0,c,a,a3,a4,e,g,h,j,y] 3=some a3:=rfl;have L:at? [a0,c,a,a3,a4,e,g,h,j,y] 4=some a4:=rfl;have O:at? [a0,c,a,a3,a4,e,g,h,j,y] 5=some e:=rfl;have Q:at? [a0,c,a,a3,a4,e,g,h,j,y] 6=some g:=rfl;have S:at? [a0,c,a,a3,a4,e,g,h,j,y] 7=some h:=rfl;have X:at? [a0,c,a,a3,a4,e,g,h,j,y] 8=some j:=rfl;have Y:at? [a0,c,a,a3,a4,e,g,h,j,y] 9=some y:=rfl;simp only[G,H,I,J,L,O,Q,S,X,Y,AB,ij];refine⟨_,B,E,rfl,h2,fun q rest hq hf hf2=>?_⟩;obtain⟨p1,p2,p3⟩:=h4 (MG q) rest hq rfl;refine⟨?_,p2,p3⟩;unfold MG at p1;simp only[CY,and_true]at p1;obtain⟨q0,q1,q2,q3,q4,q5,q6,q7,q8,q9⟩:=p1;rw[Ah (by omega) (by omega)]at q2;have hfrom:w64 ((if a>0 then a else 0)-1)=q.Bi:=by
  grind[Ah]
 rw[hfrom,q0,q1,q3,q4,q5,q6,q7,q8,q9]
def tl4(g:AE):List Int:=(g.BF.length:Int)::(g.BF++g.BC.map up)
def tl3(g:AE)(i:Nat):List Int:=(g.AH.drop i).map fr++tl4 g
def tl2(g:AE)(i:Nat):List Int:=(g.AG.drop i).flatMap MG++tl3 g 0
theorem nP{g:AE}{l:List Int}(h:Good g l):l=((KG g.AQ).length:Int)::(KG g.AQ++(g.Now::g.Az::(g.AG.length:Int)::tl2 g 0)):=by
 rw[<-h.2.2,ASy];simp only[tl2,tl3,tl4,Cn]
def Hd(g:AE)(R:Aa)(now turn:Int):Prop:=g.AQ=R/\g.Now=now/\g.Az=turn
theorem nR{h:AE}{R:Aa}(hR:h.AQ=R):AE.mk (Aa.mk R.AW R.Cb R.Room R.BA R.CG R.B1 R.Rest R.Ca R.Cx) h.Now h.Az h.AG h.AH h.BF h.BC=h:=by
 subst hR;rfl
theorem Wg{a b:List Int}:Ic (·==·) a b=true↔a=b:=Jq AWA
def jb(j:Int):Int:=w64 ((if j > -5 then j else -5)-1)
theorem AZa{x:Int}(h:-1<=x)(a:x<4):jb (up x)=x:=by
 unfold jb up
 grind[Ah]
section spec
variable{l:List Int}(hl:l.length<=1048576){R:Aa×Bool}{now turn:Int}
include hl
theorem AZ4{x:List Int×DN}{h:AE}(hR:h.AQ=R.1)(e:B0 h)(c:∀g,Good g l->g=h/\x.2.vQ=false) :
 ∃r,RA l R x ((),R.1.Cb,R.1.Room,R.1.BA,R.1.CG,R.1.B1,R.1.Rest,R.1.Ca,R.1.Cx,h.Now,h.Az,h.AG,h.AH,h.BF,h.BC)=some r/\Red l r:=by
 unfold RA VT;dsimp only;rw[nR hR];cases q:x.2.vQ with
 |true=>
  rw[BK,AV,BK];exact⟨_,rfl,Red.bad fun g a=>by have:=(c g a).2;rw[q]at this;cases this⟩
 |false=>
  rw[BL,Io e,AB,BB];cases hB:D8 h with
  |false=>
   rw[BL,AV,BK];exact⟨_,rfl,Red.bad fun g a=>by rw[(c g a).1]at a;rw[a.1]at hB;cases hB⟩
  |true=>
   have B:=Sf e hB;rw[BK,oJ e hB,AB,ACY (by omega),AB,AV,BB];cases j:Ic (·==·) (HY h) l with
   |true=>
    rw[BK];exact⟨_,rfl,fun _=>⟨⟨hB,e,Wg.1 j⟩,fun g a=>(c g a).1⟩,fun y=>by cases y⟩
   |false=>
    rw[BL];refine⟨_,rfl,Red.bad fun g a=>?_⟩;rw[(c g a).1]at a;rw[Wg.2 a.2.2]at j;cases j
theorem AZ7{x:List Int×DN}{ps:List AN}{cs:List Ab}{td:List Int}(g:x.1.length<=1048576) :
 A3 (eH l R x) big (0,(),R.1.Cb,R.1.Room,R.1.BA,R.1.CG,R.1.B1,R.1.Rest,R.1.Ca,R.1.Cx,now,turn,ps,cs,td,[]) =
  RA l R x ((),R.1.Cb,R.1.Room,R.1.BA,R.1.CG,R.1.B1,R.1.Rest,R.1.Ca,R.1.Cx,now,turn,ps,cs,td,x.1.map jb):=by
 refine C1 (n:=x.1.length) (fun i (v:List Int)=>((i:Int),(),R.1.Cb,R.1.Room,R.1.BA,R.1.CG,R.1.B1,R.1.Rest,R.1.Ca,R.1.Cx,now,turn,ps,cs,td,v)) (fun i v=>v=(x.1.take i).map jb)
  (fun _ _=>RA l R x ((),R.1.Cb,R.1.Room,R.1.BA,R.1.CG,R.1.B1,R.1.Rest,R.1.Ca,R.1.Cx,now,turn,ps,cs,td,x.1.map jb)) (by omega) ?_ (v:=[]) (by simp)
 intro L i v a hi e;unfold eH;dsimp only;rcases AZ i x.1.length with h|h
 .have hlim:lim=268435456:=rfl;have c:v.length<=1048576:=by rw[a,Aj,BS];omega
  simp only[B4 h,BK,BJ h,AB,ij,Bt h (by omega:x.1.length<2 ^ 63)];rw[B8 (by rw[Li];omega)];refine e _ ?_ h;rw[a,B6,AT h,List.map_append];rfl
 grind[BL,AV]
theorem AZ3(hr:D4 R.1=true){ps:List AN}{cs:List Ab}{k:Nat}{b:Bool}(hk:k<=l.length)(B:ps.length<=1048576)(q:cs.length<=1048576)(j:∀c∈cs,FJ c)
 (ha:∀g,Good g l->Hd g R.1 now turn/\g.AG=ps/\g.AH=cs/\l.drop k=tl4 g/\b=false) :
 ∃r,eF l R ((),R.1.Cb,R.1.Room,R.1.BA,R.1.CG,R.1.B1,R.1.Rest,R.1.Ca,R.1.Cx,now,turn,ps,cs,[],[],rd l k b)=some r/\Red l r:=by
 have E:=CM hr;have hcrew:=E.2.2.2.2.2.2.2.2.2;unfold eF;dsimp only;obtain⟨nt,k1,J,O,Q,S,e4,X⟩:=Z3 (b:=b) hl hk (m:=(R.1.AW.length:Int)) (by omega);obtain⟨n,rfl⟩:=As S;obtain⟨td,k2,G,Y,Z,f3,f4⟩:=s7 (b:=J) hl Q (n:=n) (by omega);obtain⟨c,H⟩:=As (show 0<=R.1.Cx by omega);obtain⟨js,k3,L,g1,g2,g3,g4⟩:=s7 (b:=G) hl Z (n:=c) (by omega);rw[O,AB];dsimp only;rw[Y,AB];dsimp only;have e:Y9 (rd l k2 G) R.1.Cx=some (js,rd l k3 L):=by rw[H];exact g1
 rw[e,AB];rw[AZ7 hl (by dsimp only;omega)];refine AZ4 hl (h:=⟨R.1,now,turn,ps,cs,td,js.map jb⟩) rfl ⟨by dsimp only;omega,B,q,j,by dsimp only;omega,by dsimp only;rw[Aj];omega⟩ ?_;intro g I;obtain⟨⟨q1,q2,q3⟩,q4,q5,q6,q7⟩:=ha g I;have a:=PI I.1;obtain⟨u1,u2,u3⟩:=X _ _ q6 (by omega) (by have:=a.todo;rw[q1]at this;omega);obtain⟨v1,v2,v3⟩:=f4 _ _ u2 (by omega);obtain⟨w1,w2,w3⟩:=g4 (g.BC.map up) [] (by rw[v2,List.append_nil]) (by rw[Aj];have:=a.Rq;rw[q1,H]at this;omega);have hj:js.map jb=g.BC:=by
  rw[w1,List.map_map]
  conv=>rhs;rw[<-List.map_id g.BC]
  apply List.map_congr_left;intro y hy;have:=a.job y hy;exact AZa this.1 this.2
 refine⟨?_,by dsimp only[rd];rw[w3,v3,u3,q7]⟩;rw[hj,v1];cases g
 grind
theorem AZ6(X:D4 R.1=true){ps:List AN}{k:Nat}{b:Bool}(hk:k<=l.length)(hps:ps.length<=40)
 (ha:∀g,Good g l->Hd g R.1 now turn/\g.AG=ps/\l.drop k=tl3 g 0/\b=false) :
 ∃r,eE l R ((),R.1.Cb,R.1.Room,R.1.BA,R.1.CG,R.1.B1,R.1.Rest,R.1.Ca,R.1.Cx,now,turn,ps,[],[],[],rd l k b)=some r/\Red l r:=by
 have O:=CM X;unfold eE;dsimp only;refine gx (n:=R.1.AW.length) (fun i (v:List Ab×Nat×Bool)=>((i:Int),(),R.1.Cb,R.1.Room,R.1.BA,R.1.CG,R.1.B1,R.1.Rest,R.1.Ca,R.1.Cx,now,turn,ps,v.1,[],[],rd l v.2.1 v.2.2))
  (fun i v=>v.1.length=i/\(∀c∈v.1,FJ c)/\v.2.1<=l.length/\∀g,Good g l->Hd g R.1 now turn/\g.AG=ps/\v.1=g.AH.take i/\l.drop v.2.1=tl3 g i/\v.2.2=false)
  (Red l) (by omega) ?_ (v:=([],k,b)) ⟨rfl,by simp,hk,fun g j=>by obtain⟨h1,h2,h3,h4⟩:=ha g j;exact⟨h1,h2,by simp,h3,h4⟩⟩
 rintro L i ⟨cs,q,c⟩ ⟨S,gf,H,I⟩ hi Y;dsimp only at S gf H I Y ⊢;unfold zb;dsimp only;rcases AZ i R.1.AW.length with h|h
 .have hseat:=O.2.2.2.2.2.1 _ (Au h);have hD:R.1.AW.getD i 0=R.1.AW[i]:=by simp[List.getD,h]
  obtain⟨a,q',c',e1,e2,e3,e4,e5⟩:=Z3 (b:=c) hl H (m:=R.1.AW[i]) (by omega);have J:(Fu ps (i:Int)).length<=1048576:=by
   unfold Fu;rw[Im];have:=CI (Lm (i:Int)) ps;omega
  have hlim:lim=268435456:=rfl;rw[B4 h,BK,BJ h];simp only[AB,e1,Zf (show ps.length<=1048576 by omega),uY J,Ze (show ps.length<2 ^ 58 by omega),Zh (show ps.length<2 ^ 58 by omega),Ce,Ki,Kj,Kk,Kl,J4,Km,Kn,QQ (r:=R.1) (show R.1.AW.length<2 ^ 62 by omega) (show ps.length<=1048576 by omega)];rw[B8 (by rw[Li];omega),Bt h (by omega)];have B:Ab.mk (BE.mk R.1.AW[i] a (IY ps i) (w64 (w64 (R.1.AW[i]-a)-IY ps i)) (I1 ps i)) (Dq R.1 ps i now) (LB (Fu ps i)).1=i7 R.1 ps now i a:=by unfold i7;rw[hD]
  rw[B];refine Y (cs++[i7 R.1 ps now i a],q',c') ⟨by simp[S],?_,e2,fun g j=>?_⟩ h
  .intro x E;rcases List.mem_append.1 E with E|E
   .exact gf x E
   .rw[D5.1 E];refine⟨?_,Zn _⟩;unfold i7 Dq;dsimp only;rw[Im];have:=CI (K0 R.1 (i:Int) now) ps;omega
  .obtain⟨⟨p1,p2,p3⟩,p4,p5,G,Q⟩:=I g j;have e:=PI j.1;have y:i<g.AH.length:=by rw[e.EU,p1];exact h
   obtain⟨w1,w2,Z,w4⟩:=e.cab i y;unfold tl3 at G;rw[DR y,AJ]at G;obtain⟨u1,u2,u3⟩:=e5 _ _ G w2 (by rw[p1,hD]at Z;exact Z);refine⟨⟨p1,p2,p3⟩,p4,?_,u2,u3.trans Q⟩;rw[B6,AT y,p5,u1];rw[p1,p4,p2]at w1
   conv=>rhs;rw[w1]
   rfl
 .obtain rfl:i=R.1.AW.length:=by omega
  rw[C0,BL,AV];refine AZ3 hl X H (by omega) (by omega) gf fun g j=>?_
  obtain⟨p1,p4,p5,G,Q⟩:=I g j;have e:=PI j.1;have hn:g.AH.length=R.1.AW.length:=by rw[e.EU,p1.1]
  refine⟨p1,p4,?_,?_,Q⟩
  .rw[p5,BI (by omega)]
  .rw[G];unfold tl3;rw[A9 (by omega)];rfl
theorem AZ5(Y:D4 R.1=true){n:Int}{x:Int×DN}(hx:x.1=n)(O:0<=n)(hn:n<=40){k:Nat}{b:Bool}(hk:k<=l.length)
 (ha:∀g,Good g l->Hd g R.1 now turn/\(g.AG.length:Int)=n/\l.drop k=tl2 g 0/\b=false) :
 ∃r,A3 (eG l R x) big (0,(),R.1.Cb,R.1.Room,R.1.BA,R.1.CG,R.1.B1,R.1.Rest,R.1.Ca,R.1.Cx,now,turn,[],[],[],[],rd l k b)=some r/\Red l r:=by
 have hrl:=CM Y;obtain⟨m,rfl⟩:=As O;refine gx (n:=m) (fun i (v:List AN×Nat×Bool)=>((i:Int),(),R.1.Cb,R.1.Room,R.1.BA,R.1.CG,R.1.B1,R.1.Rest,R.1.Ca,R.1.Cx,now,turn,v.1,[],[],[],rd l v.2.1 v.2.2))
  (fun i v=>v.1.length=i/\v.2.1<=l.length/\∀g,Good g l->Hd g R.1 now turn/\g.AG.length=m/\v.1=g.AG.take i/\l.drop v.2.1=tl2 g i/\v.2.2=false)
  (Red l) (by omega) ?_ (v:=([],k,b)) ⟨rfl,hk,fun g a=>by obtain⟨h1,h2,h3,h4⟩:=ha g a;exact⟨h1,by omega,by simp,h3,h4⟩⟩
 rintro L i ⟨ps,q,c⟩ ⟨X,J,B⟩ hi Z;dsimp only at X J B Z ⊢;unfold eG;dsimp only;rw[hx];rcases AZ i m with h|h
 .obtain⟨p,q',S,e1,e2,e3⟩:=AWe (b:=c) hl J;rw[B4 h,BK,e1,AB];dsimp only;rw[MV (by omega),AB,BB];have E:∀g,Good g l->p=g.AG.getD i ⟨0,0,0,0,0,0,0,0,0,0⟩/\i<g.AG.length/\l.drop q'=tl2 g (i+1)/\S=false:=by
   intro g a;obtain⟨p1,p2,p3,p4,p5⟩:=B g a;have j:i<g.AG.length:=by omega
   have G:=E6 ((PI a.1).par i j);have hs:=(CM G.1).1;unfold tl2 at p4;rw[DR j,List.flatMap_cons,CD]at p4;obtain⟨H,y,I⟩:=e3 _ _ p4 G.2.2.2.2.1.1 (by omega);refine⟨?_,j,y,I.trans p5⟩;rw[H];simp[List.getD,j]
  cases Q:Dp R.1 p now with
  |true=>
   have hlim:lim=268435456:=rfl;rw[BK,B8 (by rw[Li];omega),Bt h (by omega)];refine Z (ps++[p],q',S) ⟨by simp[X],e2,fun g a=>?_⟩ h;obtain⟨p1,p2,p3,p4,p5⟩:=B g a;obtain⟨H,y,I,u4⟩:=E g a;refine⟨p1,p2,?_,I,u4⟩;rw[B6,AT y,p3,H];simp[List.getD,y]
  |false=>
   rw[BL];refine⟨_,rfl,Red.bad fun g a=>?_⟩;obtain⟨p1,p2,p3,p4,p5⟩:=B g a;obtain⟨H,y,I,u4⟩:=E g a;have:=(PI a.1).par i y;rw[H]at Q;have e:g.AG.getD i ⟨0,0,0,0,0,0,0,0,0,0⟩=g.AG[i]:=by simp[List.getD,y]
   rw[e,<-p1.1,<-p1.2.1,this]at Q;cases Q
 .obtain rfl:i=m:=by omega
  rw[C0,BL,AV];refine AZ6 hl Y J (by omega) fun g a=>?_
  obtain⟨p1,p2,p3,p4,p5⟩:=B g a;refine⟨p1,?_,?_,p5⟩
  .rw[p3,BI (by omega)]
  .rw[p4];unfold tl2;rw[A9 (by omega)];rfl
end spec
theorem uP{l:List Int}(hl:l.length<=1048576):∃r,za l=some r/\Red l r:=by
 unfold za;obtain⟨sz,k1,q,I,J,a3,a4,L⟩:=Z3 (l:=l) (k:=0) (b:=false) hl (Nat.zero_le _) (m:=12) (by omega);obtain⟨s,rfl⟩:=As a3;obtain⟨xs,k2,y,S,X,c3,c4⟩:=s7 (b:=q) hl J (n:=s) (by omega);have h:Y8 (DN.mk l 0 false) 12=some ((s:Int),rd l k1 q):=I;rw[h,AB];dsimp only;rw[S,AB];dsimp only;rw[uW (by omega),AB,BB];have e:∀g,Good g l->xs=KG g.AQ/\l.drop k2=g.Now::g.Az::(g.AG.length:Int)::tl2 g 0/\y=false:=by
  intro g c;have hn:=nP c;have B:=PG g.AQ;have a:=PI c.1;obtain⟨E,G,H⟩:=L _ _ (by rw[Cn];exact hn) (by omega) (by have:=a.Dw;omega)
  grind
 cases hR:(KI xs).2 with
 |false=>
  rw[BL];refine⟨_,rfl,Red.bad fun g c=>?_⟩;rw[(e g c).1,MU (PI c.1).rules]at hR;cases hR
 |true=>
  rw[BK];have j:=(jj hR).1;obtain⟨n1,k3,O,Y,Z,d3⟩:=s4 (b:=y) hl X;obtain⟨n2,k4,Q,f1,f2,f3⟩:=s4 (b:=O) hl Z;obtain⟨n3,k5,b5,g1,g2,g3,g4,g5⟩:=Z3 (b:=Q) hl f2 (m:=40) (by omega);simp only[Y,AB,Ce,Ki,Kj,Kk,Kl,J4,Km,Kn,uu,f1,g1];refine AZ5 hl j (now:=n1) (turn:=n2) rfl g3 g4 g2 fun g c=>?_
  obtain⟨q1,q2,q3⟩:=e g c;have a:=PI c.1;obtain⟨E,G,H⟩:=d3 _ _ q2;obtain⟨v1,v2,v3⟩:=f3 _ _ G;obtain⟨w1,w2,w3⟩:=g5 _ _ v2 (by omega) (by have:=a.few;omega);refine⟨⟨?_,E.symm,v1.symm⟩,w1.symm,w2,by rw[w3,v3,H,q3]⟩;rw[q1,MU a.rules]
end Lv.P
