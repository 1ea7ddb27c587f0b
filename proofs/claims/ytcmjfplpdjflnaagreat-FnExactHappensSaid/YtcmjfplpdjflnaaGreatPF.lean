/- Plain laws about what the program computes. -/
import Derived.Test.YtcmjfplpdjflnaaGreatKD
import Derived.Test.YtcmjfplpdjflnaaGreatPE
noncomputable section
set_option linter.unusedVariables false
set_option linter.unusedSimpArgs false
set_option linter.unusedSectionVars false
open Bool renaming and_eq_true->AE,not_eq_true'->BF
open Int renaming eq_ofNat_of_zero_le->A6,toNat_natCast->Aa
open List renaming append_assoc->CA,drop_eq_nil_of_le->A9,drop_zero->Cp,ext_getElem->JP,filter_append->Ic,filter_cons->ET,flatten_cons->EB,getElem?_eq_getElem->AV,getElem_map->JQ,getElem_mem->Ao,getElem_range->Ig,length_cons->AJ,length_filterMap_le->CG,length_map->Aj,length_take->Bb,map_cons->AI,map_eq_flatMap->IB,mem_cons->Ar,mem_cons_of_mem->Au,mem_cons_self->Bc,mem_flatten->EU,mem_iff_getElem->Fc,mem_singleton->D3,pairwise_cons->BT,pairwise_singleton->HD,take_add_one->CY,take_of_length_le->BI,take_sublist->Gl
open List.cons renaming injEq->Cb
open Nat renaming le_refl->Af,lt_or_ge->Ab
namespace Lv.P
open Lv Go
def XB(w:Av)(p:A7):Av:=⟨w.An.set (p.At.tmod 9).toNat (put ltP p (w.An.getD (p.At.tmod 9).toNat []))⟩
def PJ(w:Av)(p:A7):Av×Bool:=if Ht w=true/\P2 p=true/\Ht (XB w p)=true then (XB w p,true) else (w,false)
theorem ML{p:A7}(h:P2 p=true):(1<=p.At/\p.At<=1000008)/\1<=p.Id/\p.Id<=999:=by
 grind[P2,CQ]
theorem Zy{n:Int}(h:1<=n):∃k:Nat,k<9/\n.tmod 9=(k:Int):=by
 obtain⟨m,rfl⟩:=A6 (show 0<=n by omega);refine⟨m % 9,Nat.mod_lt _ (by omega),?_⟩;rw[Int.tmod_eq_emod_of_nonneg (by omega)];rfl
theorem ABK{α:Type}{l:List (List α)}{k:Nat}(h:k<l.length)(x:List α):(l.set k x).flatten.length+l[k].length=l.flatten.length+x.length:=by
 grind[List.set_eq_take_append_cons_drop,List.take_append_drop,List.drop_eq_getElem_cons]
theorem AXZ{α:Type}{l:List (List α)}{k:Nat}(h:k<l.length){x:List α}{a:α}(c:a∈x):a∈(l.set k x).flatten:=by
 rw[EU];exact⟨x,List.mem_set h _,c⟩
theorem lW{w:Av}(g:Nn w){p:A7}(j:1<=p.At):DP (XB w p)/\p∈(XB w p).An.flatten:=by
 obtain⟨k,B,e⟩:=Zy j;have q:=g.nine;have y:=g.few;unfold XB;rw[e,Aa];have a:k<w.An.length:=by omega
 have h:=ABK a (put ltP p (w.An.getD k []));have c:w.An.getD k []=w.An[k]:=by simp[List.getD,a]
 rw[c,FR]at h;refine⟨⟨by dsimp only;rw[List.length_set];omega,by dsimp only;rw[c];omega⟩,AXZ a (SZ.2 (.inl rfl))⟩
theorem TM{w:Av}(g:DP w)(p:A7):fC w p=some (PJ w p):=by
 unfold fC fD;rw[SB g,AB,KA g,AB,BK];by_cases hB:Ht w=true
 .have hP:=Dq.1 hB;rw[hB,BL,AU,BH];by_cases j:p.At<1
  .rw[AW j];unfold PJ;rw[AT];rintro⟨_,c,_⟩;have:=ML c;omega
  .rw[AT j];obtain⟨q,B⟩:=lW hP (p:=p) (by omega);obtain⟨k,H,e⟩:=Zy (n:=p.At) (by omega);have G:=hP.nine;have y:=hP.few;have a:k<w.An.length:=by omega
   have c:w.An.getD k []=w.An[k]:=by simp[List.getD,a]
   have E:=IY a;have h:(Av.mk (w.An.set k (put ltP p w.An[k])))=XB w p:=by unfold XB;rw[e,Aa,c]
   simp only[e,BG a,AB,UG (l:=w.An[k]) (by unfold lim;omega) p,Aa,h,KA q,SB g,BK];unfold PJ;cases hB2:Ht (XB w p) with
   |false=>rw[BO,AT (by simp)]|true=>
    rw[BL,AW ⟨hB,(Dq.1 hB2).pins p B,rfl⟩]
 grind[BO,AU,BL,PJ]
theorem S7{w:Av}(E:DP w)(p:A7):z7 w p=some (PJ w p):=by
 unfold z7 fH;rw[SA E,AB,Jy E,AB,BK];by_cases hB:Ht w=true
 .have hP:=Dq.1 hB;rw[hB,BL,T0,AB,AU,BK];cases B:P2 p with
  |false=>
   rw[BO];unfold PJ;rw[B,AT (by simp)]
  |true=>
   have j:=(ML B).1.1;rw[BL];obtain⟨I,hm⟩:=lW hP j;obtain⟨k,Z,e⟩:=Zy j;have X:=hP.nine;have J:=hP.few;have a:k<w.An.length:=by omega
   have H:w.An.getD k []=w.An[k]:=by simp[List.getD,a]
   have S:=IY a;have G:(Av.mk (w.An.set k (put ltP p w.An[k])))=XB w p:=by unfold XB;rw[e,Aa,H]
   have h:∀i:Nat,i<=w.An[k].length->∀s:List A7,s=w.An[k].take i++p::w.An[k].drop i->fI w p w w.An[k] (i:Int)=(bd (Sq (Av.mk (w.An.set k s))) fun x=>br (!x) (some (w,false)) (some (Av.mk (w.An.set k s),true))):=by
    intro i hi s Q;have g:AXv w.An[k] (i:Int) [p]=@some (C.l (.st 5)).D s:=by
     show ln (.st 5) w.An[k] (i:Int) [p]=some s;have q:(0:Int)<=i/\(i:Int).toNat<=w.An[k].length/\[p]≠([]:List A7)/\w.An[k].length+[p].length<=lim:=⟨by omega,by simpa using hi,by simp,by rw[NM];unfold lim;omega⟩;unfold ln;refine(AW q).trans ?_;rw[Q,Aa];congr 1;exact CA _ _ _
    unfold fI;have O:Y.Nw k 0 [U.sl (C.st 5) s].length [(k,0)]:=⟨rfl,⟨Af _,by simp⟩,trivial⟩;rw[g];refine(AB (α:=List A7) s _).trans ?_;simp only[e,BG a,AB,Aa,B4 O,SA E]
   simp only[e,BG a,AB];have hloop:=Ri (lt:=ltP) (F:=Va w p w w.An[k]) (l:=w.An[k]) (x:=p) (fun s=>bd (Sq (Av.mk (w.An.set k s))) fun x=>br (!x) (some (w,false)) (some (Av.mk (w.An.set k s),true))) (by omega) ?_ ?_
   .rw[hloop,G,Jy I,AB,BK];unfold PJ;cases hB2:Ht (XB w p) with|false=>rw[BO,AT (by simp)]|true=>rw[BL,AW ⟨hB,B,rfl⟩]
   .intro L i hi;unfold Va VZ;obtain⟨c,q,y,_⟩:=MX w.An[k][i] p;rw[B6 hi,BL,BG hi,AB,q,AB,AU,y,AU,h i (by omega) _ rfl]
   .intro L;unfold Va VZ;rw[C5,BO,AU,BO,AU,h _ (Af _) (w.An[k]++[p]) (by simp)]
 grind[BO,AU,BL,PJ]
theorem AC9{w:Av}(a:DP w)(p:A7):DP (PJ w p).1:=by
 grind[PJ,lW,Dq,ML]
def TR:List A7->Av->Av×Bool| [],w=>(w,true)|p::ps,w=>if (PJ w p).2=true then TR ps (PJ w p).1 else (⟨[]⟩,false)
def K3(l:List A7):Av×Bool:=TR l ⟨List.replicate 9 []⟩
theorem lU:DP ⟨List.replicate 9 []⟩:=by constructor<;>simp
theorem pj{l:List A7}{F:(Int×Av->AA (Av×Bool))->Int×Av->AA (Av×Bool)}(hl:l.length<2 ^ 62)
 (step:∀L (i:Nat) (h:i<l.length) w,DP w->F L ((i:Int),w)=br (!(PJ w l[i]).2) (some (⟨[]⟩,false)) (L (w64 ((i:Int)+1),(PJ w l[i]).1)))
 (stop:∀L w,F L ((l.length:Int),w)=some (w,true)):A3 F big (0,⟨List.replicate 9 []⟩)=some (K3 l):=by
 refine(DA (n:=l.length) (fun i (w:Av)=>((i:Int),w)) (fun _ w=>DP w) (fun i w=>some (TR (l.drop i) w)) (by omega) ?_ (v:=⟨List.replicate 9 []⟩) lU).trans (by simp[K3]);intro L i w a hi c;rcases Ab i l.length with h|h
 .rw[step L i h w a,Bp h (by omega),DR h,TR,BK];cases e:(PJ w l[i]).2 with|true=>rw[BL,c _ (AC9 a _) h];rfl|false=>rfl
 grind[TR]
theorem uw{l:List A7}(hl:l.length<=1048576):AIA l=some (K3 l):=by
 unfold AIA;rw[AFS,AB];refine pj (by omega) ?_ ?_
 .intro L i h w a;unfold eH
  grind[BL,BG,AB,TM,Ch]
 grind[eH,zg,BO,AU]
theorem tC{l:List A7}(hl:l.length<=1048576):AIK l=some (K3 l):=by
 unfold AIK;rw[AFR,AB]
 grind[pj,AAA,BL,BG,AB,S7,z8,BO,AU]
theorem pk:∀(l:List A7) {w:Av},DP w->DP (TR l w).1
 | [],w,a=>a|p::ps,w,a=>by
  unfold TR;split
  .exact pk ps (AC9 a p)
  .constructor<;>simp
theorem Zz(l:List A7):DP (K3 l).1:=pk l lU
section
variable{α:Type}{lt:α->α->Bool}
theorem Gr(a:α)(l:List α):DK lt (a::l)=put lt a (DK lt l):=rfl
theorem jU(h:Swo lt)(B:∀a b,lt a b=false->lt b a=false->a=b){g j:List α}(q:g.Perm j):DK lt g=DK lt j:=by
 induction q with
 |nil=>rfl|cons x _ E=>rw[Gr,Gr,E]|swap x y l=>rw[Gr,Gr,Gr,Gr,uL h B]|trans _ _ c e=>exact c.trans e
theorem ACE{a:α}{l:List α}(h:∀b∈l,lt b a=false):put lt a l=a::l:=by
 cases l with
 |nil=>rfl|cons z l=>rw[put,AT (by rw[h z (Bc ..)];simp)]
theorem ACF{a:α}:∀{l:List α},(∀b∈l,lt b a=true)->put lt a l=l++[a]
 | [],_=>rfl|z::l,h=>by
  rw[put,AW (h z (Bc ..)),ACF fun b c=>h b (Au _ c)];rfl
theorem pV(h:Swo lt){a z:α}{l:List α}(y:Srt lt (z::l))(j:lt z a=false):∀b∈z::l,lt b a=false:=by
 intro b g;rcases Ar.1 g with rfl|g
 .exact j
 .have q:=(BT.1 y).1 b g;cases e:lt b a with
  |false=>rfl|true=>
   rcases h.neg b z a e with c|c
   .rw[q]at c;cases c
   .rw[j]at c;cases c
theorem AKD(h:Swo lt)(a:α):∀{l:List α},Srt lt l->Srt lt (put lt a l)
 | [],_=>HD _ _|z::l,c=>by
  rw[put];split
  .rename_i g;refine BT.2 ⟨?_,AKD h a (BT.1 c).2⟩;intro b e;rcases SZ.1 e with rfl|e
   .exact h.qD _ _ g
   .exact(BT.1 c).1 b e
  .rename_i g;exact BT.2 ⟨pV h c (by simpa using g),c⟩
theorem SN(h:Swo lt):∀l:List α,Srt lt (DK lt l)| []=>List.Pairwise.nil|a::l=>AKD h a (SN h l)
theorem Te(h:Swo lt)(q:α->Bool)(a:α):∀{l:List α},Srt lt l->(put lt a l).filter q=if q a=true then put lt a (l.filter q) else l.filter q
 | [],_=>by by_cases e:q a=true<;>simp[put,e]|z::l,c=>by
  have j:=Te h q a (BT.1 c).2;rw[put];split
  .grind[put]
  .rename_i g;have habove:=pV h c (by simpa using g);rw[ET]
   grind[ACE]
theorem MG(h:Swo lt)(q:α->Bool):∀l:List α,(DK lt l).filter q=DK lt (l.filter q)
 | []=>rfl|a::l=>by
  rw[Gr,Te h q a (SN h l),MG h q l,ET]
  grind[Gr]
theorem Ok(h:Swo lt):∀{l:List α},(l.Pairwise fun a b=>lt a b=true)->DK lt l=l
 | [],_=>rfl|a::l,c=>by
  rw[Gr,Ok h (BT.1 c).2,ACE];intro b e;exact h.qD _ _ ((BT.1 c).1 b e)
theorem Mn(h:Swo lt):∀{l:List α},(∀k (q:k+1<l.length),lt l[k] l[k+1]=true)->l.Pairwise fun a b=>lt a b=true
 | [],_=>List.Pairwise.nil| [a],_=>HD _ _|a::b::l,j=>by
  have y:=Mn h (l:=b::l) fun k q=>j (k+1) (by simpa using q)
  have g:lt a b=true:=j 0 (by simp);refine BT.2 ⟨?_,y⟩;intro c e;rcases Ar.1 e with rfl|e
  .exact g
  .exact h.trans g ((BT.1 y).1 c e)
end
theorem WS{α β:Type}{f g:β->List α}:∀{l:List β},(∀i∈l,(f i).Sublist (g i))->(l.map f).flatten.Sublist (l.map g).flatten
 | [],_=>List.Sublist.slnil|i::l,h=>by
  simp only[AI,EB];exact(h i (Bc ..)).append (WS fun j a=>h j (Au _ a))
def FZ(i:Nat)(p:A7):Bool:=p.At.tmod 9==(i:Int)
theorem Ja{i:Nat}{p:A7}:FZ i p=true↔p.At.tmod 9=(i:Int):=by unfold FZ;exact beq_iff_eq
theorem UI{w:Av}(B:Nn w){i:Nat}(hi:i<w.An.length):(w.An.flatten).filter (FZ i)=w.An[i]:=by
 have g:∀j (a:j<w.An.length),∀p∈w.An[j],p.At.tmod 9=(j:Int):=by
  intro j a p c;obtain⟨k,h,rfl⟩:=Fc.1 c;exact B.at_ j a k h
 have e:w.An.flatten=(w.An.take i).flatten++(w.An[i]++(w.An.drop (i+1)).flatten):=by
  conv=>lhs;rw[<-List.take_append_drop i w.An,List.drop_eq_getElem_cons hi]
  simp only[List.flatten_append,EB]
 have E:((w.An.take i).flatten).filter (FZ i)=[]:=by
  grind[List.filter_eq_nil_iff,List.mem_flatten,List.mem_iff_getElem,Ja]
 have G:((w.An.drop (i+1)).flatten).filter (FZ i)=[]:=by
  rw[List.filter_eq_nil_iff];intro p c;obtain⟨s,y,q⟩:=EU.1 c;obtain⟨j,a,rfl⟩:=Fc.1 y
  grind[Ja]
 grind[FZ,List.filter_eq_self]
def W9(S:List A7)(j:Nat):Av:=⟨(List.range 9).map fun i=>(S.take j).filter (FZ i)⟩
theorem Yv{w:Av}(a:Nn w):w=⟨(List.range 9).map fun i=>(DK ltP w.An.flatten).filter (FZ i)⟩:=by
 have e:=a.nine;cases w with
 |mk sp=>
  congr 1;dsimp only at e a ⊢;apply JP
  .simp[e]
  .intro i c g;rw[JQ,Ig,MG Ei,UI a c];exact(Ok Ei (Mn Ei (a.srt i c))).symm
theorem ATs{w:Av}(e:Nn w)(j:Nat):Nn (W9 (DK ltP w.An.flatten) j):=by
 have c:(W9 (DK ltP w.An.flatten) j).An.flatten.Sublist w.An.flatten:=by
  conv=>rhs;rw[Yv e]
  exact WS fun i _=>(Gl _ _).filter _
 have E:∀i (h:i<(W9 (DK ltP w.An.flatten) j).An.length),(W9 (DK ltP w.An.flatten) j).An[i]=((DK ltP w.An.flatten).take j).filter (FZ i):=by
  intro i h;simp only[W9,JQ,Ig]
 have q:∀i,i<9->(((DK ltP w.An.flatten).take j).filter (FZ i)).Pairwise fun a b=>ltP a b=true:=by
  intro i hi;have g:i<w.An.length:=by rw[e.nine];exact hi
  have y:((DK ltP w.An.flatten).filter (FZ i))=w.An[i]:=by
   rw[MG Ei,UI e g];exact Ok Ei (Mn Ei (e.srt i g))
  refine List.Pairwise.sublist ((Gl _ _).filter _) ?_;rw[y];exact Mn Ei (e.srt i g)
 refine⟨by simp[W9],Nat.le_trans c.length_le e.few,fun p B=>e.pins p (c.subset B),e.ids.sublist c,?_,?_⟩
 .grind[ltP,Ja]
 grind[W9,List.pairwise_iff_getElem]
theorem AVr{w:Av}(h:Nn w){j:Nat}(L:j<(DK ltP w.An.flatten).length):XB (W9 (DK ltP w.An.flatten) j) (DK ltP w.An.flatten)[j]=W9 (DK ltP w.An.flatten) (j+1):=by
 have I:(DK ltP w.An.flatten)[j]∈w.An.flatten:=Ol.1 (Ao L);obtain⟨k,O,e⟩:=Zy (ML (h.pins _ I)).1.1;have Q:(DK ltP w.An.flatten).Pairwise fun a b=>ltP b a=false:=SN Ei _
 have J:(DK ltP w.An.flatten).take (j+1)=(DK ltP w.An.flatten).take j++[(DK ltP w.An.flatten)[j]]:=by rw[CY,AV L];rfl
 generalize hS:DK ltP w.An.flatten=S at *;have g:∀(q:A7->Bool),q S[j]=true->(∀b∈(S.take j).filter q,ltP b S[j]=true)->put ltP S[j] ((S.take j).filter q)=(S.take (j+1)).filter q:=by
  intro q Z c;rw[ACF c,J,Ic];simp[Z]
 have H:∀b∈(S.take j).filter (FZ k),ltP b S[j]=true:=by
  intro b Y;have E:k<w.An.length:=by rw[h.nine];exact O
  have y:S.filter (FZ k)=w.An[k]:=by
   rw[<-hS,MG Ei,UI h E];exact Ok Ei (Mn Ei (h.srt k E))
  have B:((S.take (j+1)).filter (FZ k)).Pairwise fun a b=>ltP a b=true:=by
   refine List.Pairwise.sublist ((Gl _ _).filter _) ?_;rw[y];exact Mn Ei (h.srt k E)
  rw[J,Ic]at B;have X:([S[j]]:List A7).filter (FZ k)=[S[j]]:=by simp[Ja.2 e]
  rw[X]at B;exact(List.pairwise_append.1 B).2.2 b Y _ (D3.2 rfl)
 unfold XB W9;rw[e,Aa];congr 1;apply JP
 .simp
 .intro i h1 y;have hi:i<9:=by simpa using y
  rw[List.getElem_set];have hD:(((List.range 9).map fun i=>(S.take j).filter (FZ i)).getD k [])=(S.take j).filter (FZ k):=by simp[List.getD,O]
  split
  .rename_i G;subst G;rw[hD,g _ (Ja.2 e) H];simp
  .grind[Ja]
theorem mE{w:Av}(c:Nn w):K3 (DK ltP w.An.flatten)=(w,true):=by
 have key:∀m j,j+m=(DK ltP w.An.flatten).length->TR ((DK ltP w.An.flatten).drop j) (W9 (DK ltP w.An.flatten) j)=(w,true):=by
  intro m
  induction m with
  |zero=>
   grind[TR,W9,Yv]
  |succ m g=>
   intro j h;have a:j<(DK ltP w.An.flatten).length:=by omega
   have e:PJ (W9 (DK ltP w.An.flatten) j) (DK ltP w.An.flatten)[j]=(W9 (DK ltP w.An.flatten) (j+1),true):=by
    unfold PJ;rw[AVr c a,AW];exact⟨Dq.2 (ATs c j),c.pins _ (Ol.1 (Ao a)),Dq.2 (ATs c (j+1))⟩
   rw[DR a,TR,e,AW rfl];exact g (j+1) (by omega)
 have:=key (DK ltP w.An.flatten).length 0 (by omega);rw[Cp]at this;exact this
def Good(h:AF)(l:List Int):Prop:=D6 h=true/\By h/\HQ h=l
def vQ:Ae:=⟨[],0,0,0,0,0,0,0,0⟩
def Lk:AF:=⟨vQ,0,0,[],[],[],[]⟩
def Red(l:List Int)(r:AF×Bool):Prop:=(r.2=true->Good r.1 l/\∀h,Good h l->h=r.1)/\(r.2=false->r.1=Lk/\∀h,¬Good h l)
theorem Red.one{l:List Int}{r r':AF×Bool}(h:Red l r)(j:Red l r'):r=r':=by
 obtain⟨g,b⟩:=r;obtain⟨g',e⟩:=r';obtain⟨q,a⟩:=h;obtain⟨y,c⟩:=j;dsimp only at q a y c;cases b<;>cases e
 .rw[(a rfl).1,(c rfl).1]
 .grind
 .grind
 grind
theorem Red.bad{l:List Int}(h:∀h,¬Good h l):Red l (Lk,false):=⟨fun h=>(by cases h),fun _=>⟨rfl,h⟩⟩
def fr(c:AX):Int:=c.AZ.DY
def up(x:Int):Int:=w64 (x+1)
theorem ATX(h:AF):HQ h=((J6 h.AQ).length:Int)::(J6 h.AQ++(h.Now::h.Ay::(h.AG.length:Int)::(h.AG.flatMap MA++(h.AH.map fr++((h.BE.length:Int)::(h.BE++h.BC.map up)))))):=by
 have a:∀l:List AX,l.flatMap (fun c=>[c.AZ.DY])=l.map fr:=fun l=>by rw[IB];rfl
 have e:∀l:List Int,l.flatMap (fun x=>[w64 (x+1)])=l.map up:=fun l=>by rw[IB];rfl
 grind[HQ]
def jj(r:Ae)(ps:List AM)(now:Int)(i:Nat)(free:Int):AX:=
 ⟨⟨r.AZ.getD i 0,free,II ps i,w64 (w64 (r.AZ.getD i 0-free)-II ps i),Ik ps i⟩,Dp r ps i now,(K3 (Fo ps i)).1⟩
theorem AVi{t:List Int}{n:Nat}(H:n<=4)(h:IQ t n=true):t.length<=n:=by
 by_cases c:t.length<=n
 .exact c
 .exfalso;have a:∀k (B:k<t.length),0<=t[k]/\t[k]<n/\∀j (G:j<k),t[j]≠t[k]:=by
   intro k B;have y:=Je.1 h k B;unfold Ry at y;rw[CP B,AE,CQ,Aq (by omega) (by omega)]at y;refine⟨y.1.1,by omega,fun j G e=>?_⟩;have E:=y.2;simp only[BF,List.any_eq_false,beq_iff_eq]at E;refine E t[j] ?_ e;rw[Fc];exact⟨j,by rw[Bb];omega,by rw[List.getElem_take]⟩
  have I:=a 0 (by omega)
  match n,H,c,a with
  |0,_,c,a=>have:=a 0 (by omega);omega|1,_,c,a=>
   have a0:=a 0 (by omega);have g:=a 1 (by omega);have:=g.2.2 0 (by omega);omega
  |2,_,c,a=>
   have a0:=a 0 (by omega);have g:=a 1 (by omega);have q:=a 2 (by omega);have:=g.2.2 0 (by omega);have:=q.2.2 0 (by omega);have:=q.2.2 1 (by omega);omega
  |3,_,c,a=>
   have a0:=a 0 (by omega);have g:=a 1 (by omega);have q:=a 2 (by omega);have a3:=a 3 (by omega);have:=g.2.2 0 (by omega);have:=q.2.2 0 (by omega);have:=q.2.2 1 (by omega);have:=a3.2.2 0 (by omega);have:=a3.2.2 1 (by omega);have:=a3.2.2 2 (by omega);omega
  |4,_,c,a=>
   have a0:=a 0 (by omega);have g:=a 1 (by omega);have q:=a 2 (by omega);have a3:=a 3 (by omega);have a4:=a 4 (by omega)
   grind
structure Ab8(h:AF):Prop where
 rules:EO h.AQ=true
 Dr:1<=h.AQ.AZ.length/\h.AQ.AZ.length<=4
 Acl:1<=h.AQ.C3/\h.AQ.C3<=3
 few:h.AG.length<=40
 par:∀i (hi:i<h.AG.length),Dn h.AQ h.AG[i] h.Now=true
 EN:h.AH.length=h.AQ.AZ.length
 cab:∀i (hi:i<h.AH.length),h.AH[i]=jj h.AQ h.AG h.Now i (fr h.AH[i])/\0<=fr h.AH[i]/\fr h.AH[i]<=h.AQ.AZ.getD i 0/\DG h.AG i<=10
 todo:h.BE.length<=h.AQ.AZ.length
 Rb:(h.BC.length:Int)=h.AQ.C3
 job:∀x∈h.BC,-1<=x/\x<4
theorem uH{w:Av}(a:Ht w=true):(K3 (FL w)).1=w:=by
 unfold FL;rw[AW a,mE (Dq.1 a)]
theorem O7{h:AF}(O:D6 h=true):Ab8 h:=by
 obtain⟨q,h2,h3,E,G,H,I,J,L,g⟩:=Kh O;have j:=CR q;have hcrew:1<=h.AQ.C3/\h.AQ.C3<=3:=j.2.2.2.2.2.2.2.2.2;refine⟨q,j.1,hcrew,E,?_,G,?_,?_,L,?_⟩
 .intro i hi;have:=Je.1 H i hi;unfold Ze at this;rw[CP hi,AE]at this;exact this.1
 .intro i hi;have y:i<h.AQ.AZ.length:=by omega
  have a:=Je.1 g i hi;unfold Y1 at a;rw[CP hi,CP y]at a;unfold Jk Qg FE at a;simp only[AE,beq_iff_eq,CQ,BF,decide_eq_false_iff_not,Jg qg,Jg qv]at a;obtain⟨S,⟨⟨⟨l1,l2,l3,l4,l5,l6⟩,k3,X⟩,Y,Z,k7,k8⟩,k9⟩:=a;have hD:h.AQ.AZ.getD i 0=h.AQ.AZ[i]:=by simp[List.getD,y]
  have hroom:=j.2.2.1;have B:=uH X;rw[Z]at B;unfold jj fr;rw[hD,<-Y,<-k7,<-k8,<-S,B];generalize h.AH[i]=c at *;obtain⟨⟨t,f,e,s,td⟩,row,wh⟩:=c;dsimp only at *;have e1:w64 (f+e)=f+e:=Aq (by omega) (by omega);have e2:w64 (f+e+s)=f+e+s:=Aq (by omega) (by omega)
  grind[Aq]
 .have:=AVi (by omega) I;omega
 .intro x Q;have:=List.all_eq_true.1 J x Q;rw[CQ,Aq (by omega) (by omega)]at this;omega
def J8(l:List Int):Ae×Bool:=
 match l with
 |a::b::c::d::e::f::g::i::x::s=>if EO ⟨x::s,a,b,c,d,e,f,g,i⟩=true then (⟨x::s,a,b,c,d,e,f,g,i⟩,true) else (vQ,false)|_=>(vQ,false)
theorem kX{l:List Int}(h:(J8 l).2=true):EO (J8 l).1=true/\J6 (J8 l).1=l:=by
 unfold J8 at *;split at h
 .split at h
  .rename_i a;rw[AW a];exact⟨a,rfl⟩
  .cases h
 .cases h
theorem MO{r:Ae}(h:EO r=true):J8 (J6 r)=(r,true):=by
 have j:=(CR h).1.1;obtain⟨s,a,b,c,d,e,f,g,i⟩:=r
 match s,j with
 |x::s,_=>
  show (if EO _=true then _ else _)=_;rw[AW h]
theorem ur{l:List Int}(hl:l.length<=1048576):AIM l=some (J8 l):=by
 unfold AIM
 match l,hl with
 | [],_=>rfl| [_],_=>rfl| [_,_],_=>rfl| [_,_,_],_=>rfl| [_,_,_,_],_=>rfl| [_,_,_,_,_],_=>rfl| [_,_,_,_,_,_],_=>rfl| [_,_,_,_,_,_,_],_=>rfl| [_,_,_,_,_,_,_,_],_=>rfl|a::b::c::d::e::f::g::i::x::s,hl=>
  simp only[AJ]at hl;have O:(x::s).length<2 ^ 62:=by simp only[AJ];omega
  rw[BH,AT (by simp only[AJ];omega)];have h:at? (a::b::c::d::e::f::g::i::x::s) 0=some a:=rfl;have j:at? (a::b::c::d::e::f::g::i::x::s) 1=some b:=rfl;have q:at? (a::b::c::d::e::f::g::i::x::s) 2=some c:=rfl;have y:at? (a::b::c::d::e::f::g::i::x::s) 3=some d:=rfl;have B:at? (a::b::c::d::e::f::g::i::x::s) 4=some e:=rfl;have E:at? (a::b::c::d::e::f::g::i::x::s) 5=some f:=rfl;have G:at? (a::b::c::d::e::f::g::i::x::s) 6=some g:=rfl;have H:at? (a::b::c::d::e::f::g::i::x::s) 7=some i:=rfl;have I:List.drop (Int.toNat 8) (a::b::c::d::e::f::g::i::x::s)=x::s:=rfl;have J:(0:Int)<=8/\(8:Int)<=((a::b::c::d::e::f::g::i::x::s).length:Int):=by simp only[AJ];omega
  have hlim:lim=268435456:=rfl;have L:0+(x::s).length<=lim:=by simp only[AJ];omega
  simp only[h,j,q,y,B,E,G,H,I,AB,B4 J,B4 L,Ch,KX,KY,KZ,Ka,Jw,Kb,Kc,List.nil_append,J9 (r:=⟨x::s,a,b,c,d,e,f,g,i⟩) O,BK];unfold J8;dsimp only;cases EO ⟨x::s,a,b,c,d,e,f,g,i⟩<;>rfl
theorem s9{l:List Int}(hl:l.length<=1048576):AIJ l=some (J8 l):=by
 unfold AIJ
 match l,hl with
 | [],_=>rfl| [_],_=>rfl| [_,_],_=>rfl| [_,_,_],_=>rfl| [_,_,_,_],_=>rfl| [_,_,_,_,_],_=>rfl| [_,_,_,_,_,_],_=>rfl| [_,_,_,_,_,_,_],_=>rfl| [_,_,_,_,_,_,_,_],_=>rfl|a::b::c::d::e::f::g::i::x::s,hl=>
  simp only[AJ]at hl;have O:(x::s).length<2 ^ 62:=by simp only[AJ];omega
  rw[BH,AT (by simp only[AJ];omega)];have h:at? (a::b::c::d::e::f::g::i::x::s) 0=some a:=rfl;have j:at? (a::b::c::d::e::f::g::i::x::s) 1=some b:=rfl;have q:at? (a::b::c::d::e::f::g::i::x::s) 2=some c:=rfl;have y:at? (a::b::c::d::e::f::g::i::x::s) 3=some d:=rfl;have B:at? (a::b::c::d::e::f::g::i::x::s) 4=some e:=rfl;have E:at? (a::b::c::d::e::f::g::i::x::s) 5=some f:=rfl;have G:at? (a::b::c::d::e::f::g::i::x::s) 6=some g:=rfl;have H:at? (a::b::c::d::e::f::g::i::x::s) 7=some i:=rfl;have I:List.drop (Int.toNat 8) (a::b::c::d::e::f::g::i::x::s)=x::s:=rfl;have J:(0:Int)<=8/\(8:Int)<=((a::b::c::d::e::f::g::i::x::s).length:Int):=by simp only[AJ];omega
  have L:JX (x::s)=some (x::s):=R9 (by simp only[AJ];omega);simp only[h,j,q,y,B,E,G,H,I,AB,B4 J,L,Ch,KX,KY,KZ,Ka,Jw,Kb,Kc,Ha (r:=⟨x::s,a,b,c,d,e,f,g,i⟩) O,BK];unfold J8;dsimp only;cases EO ⟨x::s,a,b,c,d,e,f,g,i⟩<;>rfl
theorem AWm(x y:Int):(x==y)=true↔x=y:=beq_iff_eq
theorem ACr{a b:List Int}(hl:a.length<2 ^ 62):AIB a b=some (IN (·==·) a b):=by
 grind[AIB,Yo,zi,BL,BG,AB,zh,BO,AU]
theorem ABc{a b:List Int}(hl:a.length<2 ^ 62):AIL a b=some (IN (·==·) a b):=by
 grind[AIL,Yo,AAC,BL,BG,AB,AAB,BO,AU]
def rd(l:List Int)(k:Nat)(b:Bool):DM:=⟨l,(k:Int),b⟩
theorem tN{l:List Int}{k:Nat}{b:Bool}(hl:l.length<=1048576)(q:k<=l.length) :
 ∃n a c,ZF (rd l k b)=some (n,rd l a c)/\a<=l.length/\∀x rest,l.drop k=x::rest->n=x/\l.drop a=rest/\c=b:=by
 unfold ZF;rw[BH];rcases Ab k l.length with h|h
 .rw[AT (show ¬((rd l k b).at_>=((rd l k b).RW.length:Int)) from by show ¬((k:Int)>=(l.length:Int));omega)];have g:w64 ((k:Int)+1)=((k+1:Nat):Int):=Bp h (by omega);have j:w64 (((k+1:Nat):Int)-1)=(k:Int):=by rw[Aq (by omega) (by omega)];omega
  show ∃n a c,(bd (at? l (w64 (w64 ((k:Int)+1)-1))) fun y=>some (y,DM.mk l (w64 ((k:Int)+1)) b))=_/\_;rw[g,j,BG h,AB];refine⟨_,k+1,b,rfl,by omega,fun x rest e=>?_⟩
  grind[DR]
 .rw[AW (show (rd l k b).at_>=((rd l k b).RW.length:Int) from by show (k:Int)>=(l.length:Int);omega)];refine⟨0,k,true,rfl,q,fun x rest e=>?_⟩;rw[A9 h]at e;cases e
theorem aF{l:List Int}{k:Nat}{b:Bool}(hl:l.length<=1048576)(y:k<=l.length){m:Int}(B:0<=m) :
 ∃n a c,ZG (rd l k b) m=some (n,rd l a c)/\a<=l.length/\0<=n/\n<=m/\∀x rest,l.drop k=x::rest->0<=x->x<=m->n=x/\l.drop a=rest/\c=b:=by
 obtain⟨n,a,c,g,h,q⟩:=tN (b:=b) hl y;unfold ZG;rw[g,AB,GL,AB,BK];cases e:inB n 0 m with
 |true=>
  rw[CQ]at e;exact⟨n,a,c,rfl,h,e.1,e.2,fun x rest j _ _=>q x rest j⟩
 |false=>
  refine⟨0,a,true,rfl,h,by omega,B,fun x rest j E g=>?_⟩
  grind[inB]
theorem tQ{l:List Int}{k:Nat}{b:Bool}(hl:l.length<=1048576)(Z:k<=l.length){n:Nat}(hn:n<=1048576) :
 ∃xs a e,ZH (rd l k b) (n:Int)=some (xs,rd l a e)/\a<=l.length/\xs.length=n/\∀ys rest,l.drop k=ys++rest->ys.length=n->xs=ys/\l.drop a=rest/\e=b:=by
 unfold ZH;have key:=V7 (F:=fO (n:Int)) (n:=n) (fun i (v:List Int×Nat×Bool)=>(v.1,(i:Int),rd l v.2.1 v.2.2))
  (fun i v=>v.1.length=i/\v.2.1<=l.length/\∀ys rest,l.drop k=ys++rest->ys.length=n->v.1=ys.take i/\l.drop v.2.1=ys.drop i++rest/\v.2.2=b)
  (fun r:List Int×DM=>∃a e,r.2=rd l a e/\a<=l.length/\r.1.length=n/\∀ys rest,l.drop k=ys++rest->ys.length=n->r.1=ys/\l.drop a=rest/\e=b) (by omega) ?_ (v:=([],k,b)) ⟨rfl,Z,fun ys rest h _=>⟨by simp,by simpa using h,rfl⟩⟩
 .obtain⟨r,hr,a,e,y,S,X,Y⟩:=key;exact⟨r.1,a,e,by rw[<-y];exact hr,S,X,Y⟩
 .rintro L i ⟨xs,q,c⟩ ⟨B,E,G⟩ hi H;dsimp only at B E G H ⊢;unfold fO;dsimp only;rcases Ab i n with h|h
  .obtain⟨x,q',I,J,O,Q⟩:=tN (b:=c) hl E;have hlim:lim=268435456:=rfl;rw[B6 h,BL,J,AB,B4 (by rw[NM];omega),Bp h (by omega)];refine H (xs++[x],q',I) ⟨by simp[B],O,fun ys rest hy j=>?_⟩ h;obtain⟨p1,p2,p3⟩:=G ys rest hy j;have g:i<ys.length:=by omega
   rw[DR g]at p2;obtain⟨u1,u2,u3⟩:=Q _ _ p2;refine⟨?_,u2,u3.trans p3⟩;rw[p1,u1,CY,AV g];rfl
  .obtain rfl:i=n:=by omega
   rw[C5,BO,AU];unfold AAF
   grind
theorem ten{α:Type}{l:List α}(h:l.length=10):∃a b c d e f g i j k,l=[a,b,c,d,e,f,g,i,j,k]:=by
 match l,h with
 | [a,b,c,d,e,f,g,i,j,k],_=>exact⟨a,b,c,d,e,f,g,i,j,k,rfl⟩
theorem AXG{l:List Int}{k:Nat}{b:Bool}(hl:l.length<=1048576)(hk:k<=l.length) :
 ∃p B E,AIN (rd l k b)=some (p,rd l B E)/\B<=l.length/\∀(q:AM) rest,l.drop k=MA q++rest -> -1<=q.Bk->q.Bk<=1048576->p=q/\l.drop B=rest/\E=b:=by
 obtain⟨xs,B,E,Z,h2,h3,h4⟩:=tQ (b:=b) hl hk (n:=10) (by omega);obtain⟨a0,c,a,a3,a4,e,g,h,j,y,rfl⟩:=ten h3;unfold AIN;rw[show (10:Int)=((10:Nat):Int) from rfl,Z,AB];have G:at? [a0,c,a,a3,a4,e,g,h,j,y] 0=some a0:=rfl;have H:at? [a0,c,a,a3,a4,e,g,h,j,y] 1=some c:=rfl;have I:at? [a0,c,a,a3,a4,e,g,h,j,y] 2=some a:=rfl;have J:at? [a0,c,a,a3,a4,e,g,h,j,y] 3=some a3:=rfl;have L:at? [a0,c,a,a3,a4,e,g,h,j,y] 4=some a4:=rfl;have O:at? [a0,c,a,a3,a4,e,g,h,j,y] 5=some e:=rfl;have Q:at? [a0,c,a,a3,a4,e,g,h,j,y] 6=some g:=rfl;have S:at? [a0,c,a,a3,a4,e,g,h,j,y] 7=some h:=rfl;have X:at? [a0,c,a,a3,a4,e,g,h,j,y] 8=some j:=rfl;have Y:at? [a0,c,a,a3,a4,e,g,h,j,y] 9=some y:=rfl;simp only[G,H,I,J,L,O,Q,S,X,Y,AB,jW];refine⟨_,B,E,rfl,h2,fun q rest hq hf hf2=>?_⟩;obtain⟨p1,p2,p3⟩:=h4 (MA q) rest hq rfl;refine⟨?_,p2,p3⟩;unfold MA at p1;simp only[Cb,and_true]at p1;obtain⟨q0,q1,q2,q3,q4,q5,q6,q7,q8,q9⟩:=p1;rw[Aq (by omega) (by omega)]at q2;have hfrom:w64 ((if a>0 then a else 0)-1)=q.Bk:=by
  grind[Aq]
 rw[hfrom,q0,q1,q3,q4,q5,q6,q7,q8,q9]
def tl4(g:AF):List Int:=(g.BE.length:Int)::(g.BE++g.BC.map up)
def tl3(g:AF)(i:Nat):List Int:=(g.AH.drop i).map fr++tl4 g
def tl2(g:AF)(i:Nat):List Int:=(g.AG.drop i).flatMap MA++tl3 g 0
theorem oR{g:AF}{l:List Int}(h:Good g l):l=((J6 g.AQ).length:Int)::(J6 g.AQ++(g.Now::g.Ay::(g.AG.length:Int)::tl2 g 0)):=by
 rw[<-h.2.2,ATX];simp only[tl2,tl3,tl4,Cp]
def Hd(g:AF)(R:Ae)(now turn:Int):Prop:=g.AQ=R/\g.Now=now/\g.Ay=turn
theorem oT{h:AF}{R:Ae}(hR:h.AQ=R):AF.mk (Ae.mk R.AZ R.Ce R.Room R.BB R.CE R.B0 R.Rest R.Cd R.C3) h.Now h.Ay h.AG h.AH h.BE h.BC=h:=by
 subst hR;rfl
theorem Wo{a b:List Int}:IN (·==·) a b=true↔a=b:=Jg AWm
def jb(j:Int):Int:=w64 ((if j > -5 then j else -5)-1)
theorem Aaa{x:Int}(h:-1<=x)(a:x<4):jb (up x)=x:=by
 unfold jb up
 grind[Aq]
section spec
variable{l:List Int}(hl:l.length<=1048576){R:Ae×Bool}{now turn:Int}
include hl
theorem Aa5{x:List Int×DM}{h:AF}(hR:h.AQ=R.1)(e:By h)(c:∀g,Good g l->g=h/\x.2.vg=false) :
 ∃r,Qw l R x ((),R.1.Ce,R.1.Room,R.1.BB,R.1.CE,R.1.B0,R.1.Rest,R.1.Cd,R.1.C3,h.Now,h.Ay,h.AG,h.AH,h.BE,h.BC)=some r/\Red l r:=by
 unfold Qw VS;dsimp only;rw[oT hR];cases q:x.2.vg with
 |true=>
  rw[BL,AU,BL];exact⟨_,rfl,Red.bad fun g a=>by have:=(c g a).2;rw[q]at this;cases this⟩
 |false=>
  rw[BO,IW e,AB,BK];cases hB:D6 h with
  |false=>
   rw[BO,AU,BL];exact⟨_,rfl,Red.bad fun g a=>by rw[(c g a).1]at a;rw[a.1]at hB;cases hB⟩
  |true=>
   have B:=SQ e hB;rw[BL,pU e hB,AB,ACr (by omega),AB,AU,BK];cases j:IN (·==·) (HQ h) l with
   |true=>
    rw[BL];exact⟨_,rfl,fun _=>⟨⟨hB,e,Wo.1 j⟩,fun g a=>(c g a).1⟩,fun y=>by cases y⟩
   |false=>
    rw[BO];refine⟨_,rfl,Red.bad fun g a=>?_⟩;rw[(c g a).1]at a;rw[Wo.2 a.2.2]at j;cases j
theorem Aa8{x:List Int×DM}{ps:List AM}{cs:List AX}{td:List Int}(g:x.1.length<=1048576) :
 A3 (eM l R x) big (0,(),R.1.Ce,R.1.Room,R.1.BB,R.1.CE,R.1.B0,R.1.Rest,R.1.Cd,R.1.C3,now,turn,ps,cs,td,[]) =
  Qw l R x ((),R.1.Ce,R.1.Room,R.1.BB,R.1.CE,R.1.B0,R.1.Rest,R.1.Cd,R.1.C3,now,turn,ps,cs,td,x.1.map jb):=by
 refine DA (n:=x.1.length) (fun i (v:List Int)=>((i:Int),(),R.1.Ce,R.1.Room,R.1.BB,R.1.CE,R.1.B0,R.1.Rest,R.1.Cd,R.1.C3,now,turn,ps,cs,td,v)) (fun i v=>v=(x.1.take i).map jb)
  (fun _ _=>Qw l R x ((),R.1.Ce,R.1.Room,R.1.BB,R.1.CE,R.1.B0,R.1.Rest,R.1.Cd,R.1.C3,now,turn,ps,cs,td,x.1.map jb)) (by omega) ?_ (v:=[]) (by simp)
 intro L i v a hi e;unfold eM;dsimp only;rcases Ab i x.1.length with h|h
 .have hlim:lim=268435456:=rfl;have c:v.length<=1048576:=by rw[a,Aj,Bb];omega
  simp only[B6 h,BL,BG h,AB,jW,Bp h (by omega:x.1.length<2 ^ 63)];rw[B4 (by rw[NM];omega)];refine e _ ?_ h;rw[a,CY,AV h,List.map_append];rfl
 grind[BO,AU]
theorem Aa4(hr:EO R.1=true){ps:List AM}{cs:List AX}{k:Nat}{b:Bool}(hk:k<=l.length)(B:ps.length<=1048576)(q:cs.length<=1048576)(j:∀c∈cs,EC c)
 (ha:∀g,Good g l->Hd g R.1 now turn/\g.AG=ps/\g.AH=cs/\l.drop k=tl4 g/\b=false) :
 ∃r,eK l R ((),R.1.Ce,R.1.Room,R.1.BB,R.1.CE,R.1.B0,R.1.Rest,R.1.Cd,R.1.C3,now,turn,ps,cs,[],[],rd l k b)=some r/\Red l r:=by
 have E:=CR hr;have hcrew:=E.2.2.2.2.2.2.2.2.2;unfold eK;dsimp only;obtain⟨nt,k1,J,O,Q,S,e4,X⟩:=aF (b:=b) hl hk (m:=(R.1.AZ.length:Int)) (by omega);obtain⟨n,rfl⟩:=A6 S;obtain⟨td,k2,G,Y,Z,f3,f4⟩:=tQ (b:=J) hl Q (n:=n) (by omega);obtain⟨c,H⟩:=A6 (show 0<=R.1.C3 by omega);obtain⟨js,k3,L,g1,g2,g3,g4⟩:=tQ (b:=G) hl Z (n:=c) (by omega);rw[O,AB];dsimp only;rw[Y,AB];dsimp only;have e:ZH (rd l k2 G) R.1.C3=some (js,rd l k3 L):=by rw[H];exact g1
 rw[e,AB];rw[Aa8 hl (by dsimp only;omega)];refine Aa5 hl (h:=⟨R.1,now,turn,ps,cs,td,js.map jb⟩) rfl ⟨by dsimp only;omega,B,q,j,by dsimp only;omega,by dsimp only;rw[Aj];omega⟩ ?_;intro g I;obtain⟨⟨q1,q2,q3⟩,q4,q5,q6,q7⟩:=ha g I;have a:=O7 I.1;obtain⟨u1,u2,u3⟩:=X _ _ q6 (by omega) (by have:=a.todo;rw[q1]at this;omega);obtain⟨v1,v2,v3⟩:=f4 _ _ u2 (by omega);obtain⟨w1,w2,w3⟩:=g4 (g.BC.map up) [] (by rw[v2,List.append_nil]) (by rw[Aj];have:=a.Rb;rw[q1,H]at this;omega);have hj:js.map jb=g.BC:=by
  rw[w1,List.map_map]
  conv=>rhs;rw[<-List.map_id g.BC]
  apply List.map_congr_left;intro y hy;have:=a.job y hy;exact Aaa this.1 this.2
 refine⟨?_,by dsimp only[rd];rw[w3,v3,u3,q7]⟩;rw[hj,v1];cases g
 grind
theorem Aa7(X:EO R.1=true){ps:List AM}{k:Nat}{b:Bool}(hk:k<=l.length)(hps:ps.length<=40)
 (ha:∀g,Good g l->Hd g R.1 now turn/\g.AG=ps/\l.drop k=tl3 g 0/\b=false) :
 ∃r,eJ l R ((),R.1.Ce,R.1.Room,R.1.BB,R.1.CE,R.1.B0,R.1.Rest,R.1.Cd,R.1.C3,now,turn,ps,[],[],[],rd l k b)=some r/\Red l r:=by
 have O:=CR X;unfold eJ;dsimp only;refine V7 (n:=R.1.AZ.length) (fun i (v:List AX×Nat×Bool)=>((i:Int),(),R.1.Ce,R.1.Room,R.1.BB,R.1.CE,R.1.B0,R.1.Rest,R.1.Cd,R.1.C3,now,turn,ps,v.1,[],[],rd l v.2.1 v.2.2))
  (fun i v=>v.1.length=i/\(∀c∈v.1,EC c)/\v.2.1<=l.length/\∀g,Good g l->Hd g R.1 now turn/\g.AG=ps/\v.1=g.AH.take i/\l.drop v.2.1=tl3 g i/\v.2.2=false)
  (Red l) (by omega) ?_ (v:=([],k,b)) ⟨rfl,by simp,hk,fun g j=>by obtain⟨h1,h2,h3,h4⟩:=ha g j;exact⟨h1,h2,by simp,h3,h4⟩⟩
 rintro L i ⟨cs,q,c⟩ ⟨S,gf,H,I⟩ hi Y;dsimp only at S gf H I Y ⊢;unfold zk;dsimp only;rcases Ab i R.1.AZ.length with h|h
 .have hseat:=O.2.2.2.2.2.1 _ (Ao h);have hD:R.1.AZ.getD i 0=R.1.AZ[i]:=by simp[List.getD,h]
  obtain⟨a,q',c',e1,e2,e3,e4,e5⟩:=aF (b:=c) hl H (m:=R.1.AZ[i]) (by omega);have J:(Fo ps (i:Int)).length<=1048576:=by
   unfold Fo;rw[IV];have:=CG (Lg (i:Int)) ps;omega
  have hlim:lim=268435456:=rfl;rw[B6 h,BL,BG h];simp only[AB,e1,Zq (show ps.length<=1048576 by omega),uw J,Zp (show ps.length<2 ^ 58 by omega),Zs (show ps.length<2 ^ 58 by omega),Ch,KX,KY,KZ,Ka,Jw,Kb,Kc,QC (r:=R.1) (show R.1.AZ.length<2 ^ 62 by omega) (show ps.length<=1048576 by omega)];rw[B4 (by rw[NM];omega),Bp h (by omega)];have B:AX.mk (BJ.mk R.1.AZ[i] a (II ps i) (w64 (w64 (R.1.AZ[i]-a)-II ps i)) (Ik ps i)) (Dp R.1 ps i now) (K3 (Fo ps i)).1=jj R.1 ps now i a:=by unfold jj;rw[hD]
  rw[B];refine Y (cs++[jj R.1 ps now i a],q',c') ⟨by simp[S],?_,e2,fun g j=>?_⟩ h
  .intro x E;rcases List.mem_append.1 E with E|E
   .exact gf x E
   .rw[D3.1 E];refine⟨?_,Zz _⟩;unfold jj Dp;dsimp only;rw[IV];have:=CG (Ks R.1 (i:Int) now) ps;omega
  .obtain⟨⟨p1,p2,p3⟩,p4,p5,G,Q⟩:=I g j;have e:=O7 j.1;have y:i<g.AH.length:=by rw[e.EN,p1];exact h
   obtain⟨w1,w2,Z,w4⟩:=e.cab i y;unfold tl3 at G;rw[DR y,AI]at G;obtain⟨u1,u2,u3⟩:=e5 _ _ G w2 (by rw[p1,hD]at Z;exact Z);refine⟨⟨p1,p2,p3⟩,p4,?_,u2,u3.trans Q⟩;rw[CY,AV y,p5,u1];rw[p1,p4,p2]at w1
   conv=>rhs;rw[w1]
   rfl
 .obtain rfl:i=R.1.AZ.length:=by omega
  rw[C5,BO,AU];refine Aa4 hl X H (by omega) (by omega) gf fun g j=>?_
  obtain⟨p1,p4,p5,G,Q⟩:=I g j;have e:=O7 j.1;have hn:g.AH.length=R.1.AZ.length:=by rw[e.EN,p1.1]
  refine⟨p1,p4,?_,?_,Q⟩
  .rw[p5,BI (by omega)]
  .rw[G];unfold tl3;rw[A9 (by omega)];rfl
theorem Aa6(Y:EO R.1=true){n:Int}{x:Int×DM}(hx:x.1=n)(O:0<=n)(hn:n<=40){k:Nat}{b:Bool}(hk:k<=l.length)
 (ha:∀g,Good g l->Hd g R.1 now turn/\(g.AG.length:Int)=n/\l.drop k=tl2 g 0/\b=false) :
 ∃r,A3 (eL l R x) big (0,(),R.1.Ce,R.1.Room,R.1.BB,R.1.CE,R.1.B0,R.1.Rest,R.1.Cd,R.1.C3,now,turn,[],[],[],[],rd l k b)=some r/\Red l r:=by
 have hrl:=CR Y;obtain⟨m,rfl⟩:=A6 O;refine V7 (n:=m) (fun i (v:List AM×Nat×Bool)=>((i:Int),(),R.1.Ce,R.1.Room,R.1.BB,R.1.CE,R.1.B0,R.1.Rest,R.1.Cd,R.1.C3,now,turn,v.1,[],[],[],rd l v.2.1 v.2.2))
  (fun i v=>v.1.length=i/\v.2.1<=l.length/\∀g,Good g l->Hd g R.1 now turn/\g.AG.length=m/\v.1=g.AG.take i/\l.drop v.2.1=tl2 g i/\v.2.2=false)
  (Red l) (by omega) ?_ (v:=([],k,b)) ⟨rfl,hk,fun g a=>by obtain⟨h1,h2,h3,h4⟩:=ha g a;exact⟨h1,by omega,by simp,h3,h4⟩⟩
 rintro L i ⟨ps,q,c⟩ ⟨X,J,B⟩ hi Z;dsimp only at X J B Z ⊢;unfold eL;dsimp only;rw[hx];rcases Ab i m with h|h
 .obtain⟨p,q',S,e1,e2,e3⟩:=AXG (b:=c) hl J;rw[B6 h,BL,e1,AB];dsimp only;rw[MP (by omega),AB,BK];have E:∀g,Good g l->p=g.AG.getD i ⟨0,0,0,0,0,0,0,0,0,0⟩/\i<g.AG.length/\l.drop q'=tl2 g (i+1)/\S=false:=by
   intro g a;obtain⟨p1,p2,p3,p4,p5⟩:=B g a;have j:i<g.AG.length:=by omega
   have G:=E3 ((O7 a.1).par i j);have hs:=(CR G.1).1;unfold tl2 at p4;rw[DR j,List.flatMap_cons,CA]at p4;obtain⟨H,y,I⟩:=e3 _ _ p4 G.2.2.2.2.1.1 (by omega);refine⟨?_,j,y,I.trans p5⟩;rw[H];simp[List.getD,j]
  cases Q:Dn R.1 p now with
  |true=>
   have hlim:lim=268435456:=rfl;rw[BL,B4 (by rw[NM];omega),Bp h (by omega)];refine Z (ps++[p],q',S) ⟨by simp[X],e2,fun g a=>?_⟩ h;obtain⟨p1,p2,p3,p4,p5⟩:=B g a;obtain⟨H,y,I,u4⟩:=E g a;refine⟨p1,p2,?_,I,u4⟩;rw[CY,AV y,p3,H];simp[List.getD,y]
  |false=>
   rw[BO];refine⟨_,rfl,Red.bad fun g a=>?_⟩;obtain⟨p1,p2,p3,p4,p5⟩:=B g a;obtain⟨H,y,I,u4⟩:=E g a;have:=(O7 a.1).par i y;rw[H]at Q;have e:g.AG.getD i ⟨0,0,0,0,0,0,0,0,0,0⟩=g.AG[i]:=by simp[List.getD,y]
   rw[e,<-p1.1,<-p1.2.1,this]at Q;cases Q
 .obtain rfl:i=m:=by omega
  rw[C5,BO,AU];refine Aa7 hl Y J (by omega) fun g a=>?_
  obtain⟨p1,p2,p3,p4,p5⟩:=B g a;refine⟨p1,?_,?_,p5⟩
  .rw[p3,BI (by omega)]
  .rw[p4];unfold tl2;rw[A9 (by omega)];rfl
end spec
theorem ug{l:List Int}(hl:l.length<=1048576):∃r,zj l=some r/\Red l r:=by
 unfold zj;obtain⟨sz,k1,q,I,J,a3,a4,L⟩:=aF (l:=l) (k:=0) (b:=false) hl (Nat.zero_le _) (m:=12) (by omega);obtain⟨s,rfl⟩:=A6 a3;obtain⟨xs,k2,y,S,X,c3,c4⟩:=tQ (b:=q) hl J (n:=s) (by omega);have h:ZG (DM.mk l 0 false) 12=some ((s:Int),rd l k1 q):=I;rw[h,AB];dsimp only;rw[S,AB];dsimp only;rw[ur (by omega),AB,BK];have e:∀g,Good g l->xs=J6 g.AQ/\l.drop k2=g.Now::g.Ay::(g.AG.length:Int)::tl2 g 0/\y=false:=by
  intro g c;have hn:=oR c;have B:=O4 g.AQ;have a:=O7 c.1;obtain⟨E,G,H⟩:=L _ _ (by rw[Cp];exact hn) (by omega) (by have:=a.Dr;omega)
  grind
 cases hR:(J8 xs).2 with
 |false=>
  rw[BO];refine⟨_,rfl,Red.bad fun g c=>?_⟩;rw[(e g c).1,MO (O7 c.1).rules]at hR;cases hR
 |true=>
  rw[BL];have j:=(kX hR).1;obtain⟨n1,k3,O,Y,Z,d3⟩:=tN (b:=y) hl X;obtain⟨n2,k4,Q,f1,f2,f3⟩:=tN (b:=O) hl Z;obtain⟨n3,k5,b5,g1,g2,g3,g4,g5⟩:=aF (b:=Q) hl f2 (m:=40) (by omega);simp only[Y,AB,Ch,KX,KY,KZ,Ka,Jw,Kb,Kc,vM,f1,g1];refine Aa6 hl j (now:=n1) (turn:=n2) rfl g3 g4 g2 fun g c=>?_
  obtain⟨q1,q2,q3⟩:=e g c;have a:=O7 c.1;obtain⟨E,G,H⟩:=d3 _ _ q2;obtain⟨v1,v2,v3⟩:=f3 _ _ G;obtain⟨w1,w2,w3⟩:=g5 _ _ v2 (by omega) (by have:=a.few;omega);refine⟨⟨?_,E.symm,v1.symm⟩,w1.symm,w2,by rw[w3,v3,H,q3]⟩;rw[q1,MO a.rules]
end Lv.P
