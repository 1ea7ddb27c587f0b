/- Plain laws about what the program computes. -/
import Derived.Test.YtcmjfplpdjflnaaGreatKDc
import Derived.Test.YtcmjfplpdjflnaaGreatPEc
noncomputable section
set_option linter.unusedVariables false
set_option linter.unusedSimpArgs false
set_option linter.unusedSectionVars false
open Bool renaming and_eq_true->AF,not_eq_true'->BG
open Int renaming eq_ofNat_of_zero_le->Ac,toNat_natCast->Ah
open List renaming append_assoc->CC,append_nil->Kc,drop_eq_nil_of_le->A5,drop_zero->Cu,ext_getElem->KG,filter_append->JN,filter_cons->Ep,flatMap_cons->Ca,flatten_cons->EX,getElem?_eq_getElem->AW,getElem_map->KH,getElem_mem->As,getElem_range->JP,length_append->AK,length_cons->AH,length_drop->BK,length_filterMap_le->Bv,length_map->An,length_take->BI,map_congr_left->AaL,map_cons->AJ,map_eq_flatMap->Iw,map_id->AaM,map_map->D1,mem_append->CO,mem_cons->Ag,mem_cons_of_mem->Ax,mem_cons_self->Be,mem_flatten->Er,mem_iff_getElem->C7,mem_singleton->EM,pairwise_cons->BW,pairwise_singleton->Hj,take_add_one->Cw,take_of_length_le->BU,take_sublist->HF
open List.cons renaming injEq->Cc
open Nat renaming le_refl->Ad,lt_or_ge->AV
namespace Lv.P
open Lv Go
def Vk(w:Aq)(p:BO):Aq:=⟨w.Am.set (p.At.tmod 9).toNat (put ltP p (w.Am.getD (p.At.tmod 9).toNat []))⟩
def NR(w:Aq)(p:BO):Aq×Bool:=if Gx w=true/\RE p=true/\Gx (Vk w p)=true then (Vk w p,true) else (w,false)
theorem NH{p:BO}(h:RE p=true):(1<=p.At/\p.At<=1000008)/\1<=p.Id/\p.Id<=999:=by
 grind[RE,CP]
theorem bR{n:Int}(h:1<=n):∃k:Nat,k<9/\n.tmod 9=(k:Int):=by
 obtain⟨m,rfl⟩:=Ac (show 0<=n by omega);refine⟨m % 9,Nat.mod_lt _ (by omega),?_⟩;rw[Int.tmod_eq_emod_of_nonneg (by omega)];rfl
theorem jw{α:Type}{l:List (List α)}{k:Nat}(h:k<l.length)(x:List α):(l.set k x).flatten.length+l[k].length=l.flatten.length+x.length:=by
 grind[List.set_eq_take_append_cons_drop,List.take_append_drop,List.drop_eq_getElem_cons]
theorem AVi{α:Type}{l:List (List α)}{k:Nat}(h:k<l.length){x:List α}{a:α}(c:a∈x):a∈(l.set k x).flatten:=by
 rw[Er];exact⟨x,List.mem_set h _,c⟩
theorem m9{w:Aq}(g:O1 w){p:BO}(j:1<=p.At):Cz (Vk w p)/\p∈(Vk w p).Am.flatten:=by
 obtain⟨k,B,e⟩:=bR j;have q:=g.nine;have y:=g.few;unfold Vk;rw[e,Ah];have a:k<w.Am.length:=by omega
 have h:=jw a (put ltP p (w.Am.getD k []));have c:w.Am.getD k []=w.Am[k]:=by simp[List.getD,a]
 rw[c,Fi]at h;refine⟨⟨by dsimp only;rw[List.length_set];omega,by dsimp only;rw[c];omega⟩,AVi a (UB.2 (.inl rfl))⟩
theorem Lq{w:Aq}(g:Cz w)(p:BO):Wb w p=some (NR w p):=by
 unfold Wb gV;rw[Tg g,AB,HD g,AB,BP];by_cases hB:Gx w=true
 .have hP:=Ds.1 hB;rw[hB,BJ,AR,BL];by_cases j:p.At<1
  .rw[AX j];unfold NR;rw[AU];rintro⟨_,c,_⟩;have:=NH c;omega
  .rw[AU j];obtain⟨q,B⟩:=m9 hP (p:=p) (by omega);obtain⟨k,H,e⟩:=bR (n:=p.At) (by omega);have G:=hP.nine;have y:=hP.few;have a:k<w.Am.length:=by omega
   have c:w.Am.getD k []=w.Am[k]:=by simp[List.getD,a]
   have E:=KY a;have h:(Aq.mk (w.Am.set k (put ltP p w.Am[k])))=Vk w p:=by unfold Vk;rw[e,Ah,c]
   simp only[e,BH a,AB,Vc (l:=w.Am[k]) (by unfold lim;omega) p,Ah,h,HD q,Tg g,BP];unfold NR;cases hB2:Gx (Vk w p) with
   |false=>rw[BT,AU (by simp)]|true=>
    rw[BJ,AX ⟨hB,(Ds.1 hB2).pins p B,rfl⟩]
 grind[BT,AR,BJ,NR]
theorem Ug{w:Aq}(E:Cz w)(p:BO):AAV w p=some (NR w p):=by
 unfold AAV gk;rw[Tf E,AB,ID E,AB,BP];by_cases hB:Gx w=true
 .have hP:=Ds.1 hB;rw[hB,BJ,VL,AB,AR,BP];cases B:RE p with
  |false=>
   rw[BT];unfold NR;rw[B,AU (by simp)]
  |true=>
   have j:=(NH B).1.1;rw[BJ];obtain⟨I,hm⟩:=m9 hP j;obtain⟨k,Z,e⟩:=bR j;have X:=hP.nine;have J:=hP.few;have a:k<w.Am.length:=by omega
   have H:w.Am.getD k []=w.Am[k]:=by simp[List.getD,a]
   have S:=KY a;have G:(Aq.mk (w.Am.set k (put ltP p w.Am[k])))=Vk w p:=by unfold Vk;rw[e,Ah,H]
   have h:∀i:Nat,i<=w.Am[k].length->∀s:List BO,s=w.Am[k].take i++p::w.Am[k].drop i->gl w p w w.Am[k] (i:Int)=(bd (Ri (Aq.mk (w.Am.set k s))) fun x=>br (!x) (some (w,false)) (some (Aq.mk (w.Am.set k s),true))):=by
    intro i hi s Q;have g:AV8 w.Am[k] (i:Int) [p]=@some (C.l (.st 5)).D s:=by
     show nL (.st 5) w.Am[k] (i:Int) [p]=some s;have q:(0:Int)<=i/\(i:Int).toNat<=w.Am[k].length/\[p]≠([]:List BO)/\w.Am[k].length+[p].length<=lim:=⟨by omega,by simpa using hi,by simp,by rw[Ka];unfold lim;omega⟩;unfold nL;refine(AX q).trans ?_;rw[Q,Ah];congr 1;exact CC _ _ _
    unfold gl;have O:Y.Mc k 0 [U.sl (C.st 5) s].length [(k,0)]:=⟨rfl,⟨Ad _,by simp⟩,trivial⟩;rw[g];refine(AB (α:=List BO) s _).trans ?_;simp only[e,BH a,AB,Ah,B6 O,Tf E]
   simp only[e,BH a,AB];have hloop:=TM (lt:=ltP) (F:=Wh w p w w.Am[k]) (l:=w.Am[k]) (x:=p) (fun s=>bd (Ri (Aq.mk (w.Am.set k s))) fun x=>br (!x) (some (w,false)) (some (Aq.mk (w.Am.set k s),true))) (by omega) ?_ ?_
   .rw[hloop,G,ID I,AB,BP];unfold NR;cases hB2:Gx (Vk w p) with|false=>rw[BT,AU (by simp)]|true=>rw[BJ,AX ⟨hB,B,rfl⟩]
   .intro L i hi;unfold Wh Wg;obtain⟨c,q,y,_⟩:=NY w.Am[k][i] p;rw[B7 hi,BJ,BH hi,AB,q,AB,AR,y,AR,h i (by omega) _ rfl]
   .intro L;unfold Wh Wg;rw[Cl,BT,AR,BT,AR,h _ (Ad _) (w.Am[k]++[p]) (by simp)]
 grind[BT,AR,BJ,NR]
theorem YW{w:Aq}(a:Cz w)(p:BO):Cz (NR w p).1:=by
 grind[NR,m9,Ds,NH]
def Uw:List BO->Aq->Aq×Bool| [],w=>(w,true)|p::ps,w=>if (NR w p).2=true then Uw ps (NR w p).1 else (⟨[]⟩,false)
def Lt(l:List BO):Aq×Bool:=Uw l ⟨List.replicate 9 []⟩
theorem Re:Cz ⟨List.replicate 9 []⟩:=by constructor<;>simp
theorem rZ{l:List BO}{F:(Int×Aq->AA (Aq×Bool))->Int×Aq->AA (Aq×Bool)}(hl:l.length<2 ^ 62)
 (step:∀L (i:Nat) (h:i<l.length) w,Cz w->F L ((i:Int),w)=br (!(NR w l[i]).2) (some (⟨[]⟩,false)) (L (w64 ((i:Int)+1),(NR w l[i]).1)))
 (stop:∀L w,F L ((l.length:Int),w)=some (w,true)):BB F big (0,⟨List.replicate 9 []⟩)=some (Lt l):=by
 refine(C9 (n:=l.length) (fun i (w:Aq)=>((i:Int),w)) (fun _ w=>Cz w) (fun i w=>some (Uw (l.drop i) w)) (by omega) ?_ (v:=⟨List.replicate 9 []⟩) Re).trans (by simp[Lt]);intro L i w a hi c;rcases AV i l.length with h|h
 .rw[step L i h w a,Bg h (by omega),Dc h,Uw,BP];cases e:(NR w l[i]).2 with|true=>rw[BJ,c _ (YW a _) h];rfl|false=>rfl
 grind[Uw]
theorem xY{l:List BO}(hl:l.length<=1048576):AHF l=some (Lt l):=by
 unfold AHF;rw[Q9,AB];refine rZ (by omega) ?_ ?_
 .intro L i h w a;unfold gD
  grind[BJ,BH,AB,Lq,Cm]
 grind[gD,AAB,BT,AR]
theorem vP{l:List BO}(hl:l.length<=1048576):AHC l=some (Lt l):=by
 unfold AHC;rw[AFI,AB]
 grind[rZ,zw,BJ,BH,AB,Ug,zu,BT,AR]
theorem ra:∀(l:List BO) {w:Aq},Cz w->Cz (Uw l w).1
 | [],w,a=>a|p::ps,w,a=>by
  unfold Uw;split
  .exact ra ps (YW a p)
  .constructor<;>simp
theorem bU(l:List BO):Cz (Lt l).1:=ra l Re
section
variable{α:Type}{lt:α->α->Bool}
theorem HJ(a:α)(l:List α):DV lt (a::l)=put lt a (DV lt l):=rfl
theorem kq(h:Swo lt)(B:∀a b,lt a b=false->lt b a=false->a=b){g j:List α}(q:g.Perm j):DV lt g=DV lt j:=by
 induction q with
 |nil=>rfl|cons x _ E=>rw[HJ,HJ,E]|swap x y l=>rw[HJ,HJ,HJ,HJ,w9 h B]|trans _ _ c e=>exact c.trans e
theorem ACT{a:α}{l:List α}(h:∀b∈l,lt b a=false):put lt a l=a::l:=by
 cases l with
 |nil=>rfl|cons z l=>rw[put,AU (by rw[h z (Be ..)];simp)]
theorem ACU{a:α}:∀{l:List α},(∀b∈l,lt b a=true)->put lt a l=l++[a]
 | [],_=>rfl|z::l,h=>by
  rw[put,AX (h z (Be ..)),ACU fun b c=>h b (Ax _ c)];rfl
theorem rO(h:Swo lt){a z:α}{l:List α}(y:Srt lt (z::l))(j:lt z a=false):∀b∈z::l,lt b a=false:=by
 intro b g;rcases Ag.1 g with rfl|g
 .exact j
 .have q:=(BW.1 y).1 b g;cases e:lt b a with
  |false=>rfl|true=>
   rcases h.neg b z a e with c|c
   .rw[q]at c;cases c
   .rw[j]at c;cases c
theorem AJR(h:Swo lt)(a:α):∀{l:List α},Srt lt l->Srt lt (put lt a l)
 | [],_=>Hj _ _|z::l,c=>by
  rw[put];split
  .rename_i g;refine BW.2 ⟨?_,AJR h a (BW.1 c).2⟩;intro b e;rcases UB.1 e with rfl|e
   .exact h.rz _ _ g
   .exact(BW.1 c).1 b e
  .rename_i g;exact BW.2 ⟨rO h c (by simpa using g),c⟩
theorem Ty(h:Swo lt):∀l:List α,Srt lt (DV lt l)| []=>List.Pairwise.nil|a::l=>AJR h a (Ty h l)
theorem U9(h:Swo lt)(q:α->Bool)(a:α):∀{l:List α},Srt lt l->(put lt a l).filter q=if q a=true then put lt a (l.filter q) else l.filter q
 | [],_=>by by_cases e:q a=true<;>simp[put,e]|z::l,c=>by
  have j:=U9 h q a (BW.1 c).2;rw[put];split
  .grind[put]
  .rename_i g;have habove:=rO h c (by simpa using g);rw[Ep]
   grind[ACT]
theorem NA(h:Swo lt)(q:α->Bool):∀l:List α,(DV lt l).filter q=DV lt (l.filter q)
 | []=>rfl|a::l=>by
  rw[HJ,U9 h q a (Ty h l),NA h q l,Ep]
  grind[HJ]
theorem P6(h:Swo lt):∀{l:List α},(l.Pairwise fun a b=>lt a b=true)->DV lt l=l
 | [],_=>rfl|a::l,c=>by
  rw[HJ,P6 h (BW.1 c).2,ACT];intro b e;exact h.rz _ _ ((BW.1 c).1 b e)
theorem Nm(h:Swo lt):∀{l:List α},(∀k (q:k+1<l.length),lt l[k] l[k+1]=true)->l.Pairwise fun a b=>lt a b=true
 | [],_=>List.Pairwise.nil| [a],_=>Hj _ _|a::b::l,j=>by
  have y:=Nm h (l:=b::l) fun k q=>j (k+1) (by simpa using q)
  have g:lt a b=true:=j 0 (by simp);refine BW.2 ⟨?_,y⟩;intro c e;rcases Ag.1 e with rfl|e
  .exact g
  .exact h.trans g ((BW.1 y).1 c e)
end
theorem Xf{α β:Type}{f g:β->List α}:∀{l:List β},(∀i∈l,(f i).Sublist (g i))->(l.map f).flatten.Sublist (l.map g).flatten
 | [],_=>List.Sublist.slnil|i::l,h=>by
  simp only[AJ,EX];exact(h i (Be ..)).append (Xf fun j a=>h j (Ax _ a))
def F8(i:Nat)(p:BO):Bool:=p.At.tmod 9==(i:Int)
theorem KR{i:Nat}{p:BO}:F8 i p=true↔p.At.tmod 9=(i:Int):=by unfold F8;exact beq_iff_eq
theorem Ve{w:Aq}(B:O1 w){i:Nat}(hi:i<w.Am.length):(w.Am.flatten).filter (F8 i)=w.Am[i]:=by
 have g:∀j (a:j<w.Am.length),∀p∈w.Am[j],p.At.tmod 9=(j:Int):=by
  intro j a p c;obtain⟨k,h,rfl⟩:=C7.1 c;exact B.at_ j a k h
 have e:w.Am.flatten=(w.Am.take i).flatten++(w.Am[i]++(w.Am.drop (i+1)).flatten):=by
  conv=>lhs;rw[<-List.take_append_drop i w.Am,List.drop_eq_getElem_cons hi]
  simp only[List.flatten_append,EX]
 have E:((w.Am.take i).flatten).filter (F8 i)=[]:=by
  grind[List.filter_eq_nil_iff,List.mem_flatten,List.mem_iff_getElem,KR]
 have G:((w.Am.drop (i+1)).flatten).filter (F8 i)=[]:=by
  rw[List.filter_eq_nil_iff];intro p c;obtain⟨s,y,q⟩:=Er.1 c;obtain⟨j,a,rfl⟩:=C7.1 y
  grind[KR]
 grind[F8,List.filter_eq_self]
def YV(S:List BO)(j:Nat):Aq:=⟨(List.range 9).map fun i=>(S.take j).filter (F8 i)⟩
theorem Z6{w:Aq}(a:O1 w):w=⟨(List.range 9).map fun i=>(DV ltP w.Am.flatten).filter (F8 i)⟩:=by
 have e:=a.nine;cases w with
 |mk sp=>
  congr 1;dsimp only at e a ⊢;apply KG
  .simp[e]
  .intro i c g;rw[KH,JP,NA E7,Ve a c];exact(P6 E7 (Nm E7 (a.srt i c))).symm
theorem AR6{w:Aq}(e:O1 w)(j:Nat):O1 (YV (DV ltP w.Am.flatten) j):=by
 have c:(YV (DV ltP w.Am.flatten) j).Am.flatten.Sublist w.Am.flatten:=by
  conv=>rhs;rw[Z6 e]
  exact Xf fun i _=>(HF _ _).filter _
 have E:∀i (h:i<(YV (DV ltP w.Am.flatten) j).Am.length),(YV (DV ltP w.Am.flatten) j).Am[i]=((DV ltP w.Am.flatten).take j).filter (F8 i):=by
  intro i h;simp only[YV,KH,JP]
 have q:∀i,i<9->(((DV ltP w.Am.flatten).take j).filter (F8 i)).Pairwise fun a b=>ltP a b=true:=by
  intro i hi;have g:i<w.Am.length:=by rw[e.nine];exact hi
  have y:((DV ltP w.Am.flatten).filter (F8 i))=w.Am[i]:=by
   rw[NA E7,Ve e g];exact P6 E7 (Nm E7 (e.srt i g))
  refine List.Pairwise.sublist ((HF _ _).filter _) ?_;rw[y];exact Nm E7 (e.srt i g)
 refine⟨by simp[YV],Nat.le_trans c.length_le e.few,fun p B=>e.pins p (c.subset B),e.ids.sublist c,?_,?_⟩
 .grind[ltP,KR]
 grind[YV,List.pairwise_iff_getElem]
theorem AUA{w:Aq}(h:O1 w){j:Nat}(L:j<(DV ltP w.Am.flatten).length):Vk (YV (DV ltP w.Am.flatten) j) (DV ltP w.Am.flatten)[j]=YV (DV ltP w.Am.flatten) (j+1):=by
 have I:(DV ltP w.Am.flatten)[j]∈w.Am.flatten:=P7.1 (As L);obtain⟨k,O,e⟩:=bR (NH (h.pins _ I)).1.1;have Q:(DV ltP w.Am.flatten).Pairwise fun a b=>ltP b a=false:=Ty E7 _
 have J:(DV ltP w.Am.flatten).take (j+1)=(DV ltP w.Am.flatten).take j++[(DV ltP w.Am.flatten)[j]]:=by rw[Cw,AW L];rfl
 generalize hS:DV ltP w.Am.flatten=S at *;have g:∀(q:BO->Bool),q S[j]=true->(∀b∈(S.take j).filter q,ltP b S[j]=true)->put ltP S[j] ((S.take j).filter q)=(S.take (j+1)).filter q:=by
  intro q Z c;rw[ACU c,J,JN];simp[Z]
 have H:∀b∈(S.take j).filter (F8 k),ltP b S[j]=true:=by
  intro b Y;have E:k<w.Am.length:=by rw[h.nine];exact O
  have y:S.filter (F8 k)=w.Am[k]:=by
   rw[<-hS,NA E7,Ve h E];exact P6 E7 (Nm E7 (h.srt k E))
  have B:((S.take (j+1)).filter (F8 k)).Pairwise fun a b=>ltP a b=true:=by
   refine List.Pairwise.sublist ((HF _ _).filter _) ?_;rw[y];exact Nm E7 (h.srt k E)
  rw[J,JN]at B;have X:([S[j]]:List BO).filter (F8 k)=[S[j]]:=by simp[KR.2 e]
  rw[X]at B;exact(List.pairwise_append.1 B).2.2 b Y _ (EM.2 rfl)
 unfold Vk YV;rw[e,Ah];congr 1;apply KG
 .simp
 .intro i h1 y;have hi:i<9:=by simpa using y
  rw[List.getElem_set];have hD:(((List.range 9).map fun i=>(S.take j).filter (F8 i)).getD k [])=(S.take j).filter (F8 k):=by simp[List.getD,O]
  split
  .rename_i G;subst G;rw[hD,g _ (KR.2 e) H];simp
  .grind[KR]
theorem nV{w:Aq}(c:O1 w):Lt (DV ltP w.Am.flatten)=(w,true):=by
 have key:∀m j,j+m=(DV ltP w.Am.flatten).length->Uw ((DV ltP w.Am.flatten).drop j) (YV (DV ltP w.Am.flatten) j)=(w,true):=by
  intro m
  induction m with
  |zero=>
   grind[Uw,YV,Z6]
  |succ m g=>
   intro j h;have a:j<(DV ltP w.Am.flatten).length:=by omega
   have e:NR (YV (DV ltP w.Am.flatten) j) (DV ltP w.Am.flatten)[j]=(YV (DV ltP w.Am.flatten) (j+1),true):=by
    unfold NR;rw[AUA c a,AX];exact⟨Ds.2 (AR6 c j),c.pins _ (P7.1 (As a)),Ds.2 (AR6 c (j+1))⟩
   rw[Dc a,Uw,e,AX rfl];exact g (j+1) (by omega)
 have:=key (DV ltP w.Am.flatten).length 0 (by omega);rw[Cu]at this;exact this
def Good(h:AE)(l:List Int):Prop:=DE h=true/\Bk h/\F7 h=l
def xu:Ab:=⟨[],0,0,0,0,0,0,0,0⟩
def Jh:AE:=⟨xu,0,0,[],[],[],[]⟩
def Red(l:List Int)(r:AE×Bool):Prop:=(r.2=true->Good r.1 l/\∀h,Good h l->h=r.1)/\(r.2=false->r.1=Jh/\∀h,¬Good h l)
theorem Red.one{l:List Int}{r r':AE×Bool}(h:Red l r)(j:Red l r'):r=r':=by
 obtain⟨g,b⟩:=r;obtain⟨g',e⟩:=r';obtain⟨q,a⟩:=h;obtain⟨y,c⟩:=j;dsimp only at q a y c;cases b<;>cases e
 .rw[(a rfl).1,(c rfl).1]
 .grind
 .grind
 grind
theorem Red.bad{l:List Int}(h:∀h,¬Good h l):Red l (Jh,false):=⟨fun h=>(by cases h),fun _=>⟨rfl,h⟩⟩
def fr(c:Ae):Int:=c.AY.Dh
def up(x:Int):Int:=w64 (x+1)
theorem lO(h:AE):F7 h=((KV h.AS).length:Int)::(KV h.AS++(h.Now::h.Av::(h.AG.length:Int)::(h.AG.flatMap LK++(h.AI.map fr++((h.BA.length:Int)::(h.BA++h.A4.map up)))))):=by
 have a:∀l:List Ae,l.flatMap (fun c=>[c.AY.Dh])=l.map fr:=fun l=>by rw[Iw];rfl
 have e:∀l:List Int,l.flatMap (fun x=>[w64 (x+1)])=l.map up:=fun l=>by rw[Iw];rfl
 grind[F7]
def lH(r:Ab)(ps:List AQ)(now:Int)(i:Nat)(free:Int):Ae:=
 ⟨⟨r.AY.getD i 0,free,I5 ps i,w64 (w64 (r.AY.getD i 0-free)-I5 ps i),JU ps i⟩,Dw r ps i now,(Lt (F9 ps i)).1⟩
theorem AT2{t:List Int}{n:Nat}(H:n<=4)(h:JD t n=true):t.length<=n:=by
 by_cases c:t.length<=n
 .exact c
 .exfalso;have a:∀k (B:k<t.length),0<=t[k]/\t[k]<n/\∀j (G:j<k),t[j]≠t[k]:=by
   intro k B;have y:=JT.1 h k B;unfold RY at y;rw[CR B,AF,CP,A6 (by omega) (by omega)]at y;refine⟨y.1.1,by omega,fun j G e=>?_⟩;have E:=y.2;simp only[BG,List.any_eq_false,beq_iff_eq]at E;refine E t[j] ?_ e;rw[C7];exact⟨j,by rw[BI];omega,by rw[List.getElem_take]⟩
  have I:=a 0 (by omega)
  match n,H,c,a with
  |0,_,c,a=>have:=a 0 (by omega);omega|1,_,c,a=>
   have a0:=a 0 (by omega);have g:=a 1 (by omega);have:=g.2.2 0 (by omega);omega
  |2,_,c,a=>
   have a0:=a 0 (by omega);have g:=a 1 (by omega);have q:=a 2 (by omega);have:=g.2.2 0 (by omega);have:=q.2.2 0 (by omega);have:=q.2.2 1 (by omega);omega
  |3,_,c,a=>
   have a0:=a 0 (by omega);have g:=a 1 (by omega);have q:=a 2 (by omega);have a3:=a 3 (by omega);have:=g.2.2 0 (by omega);have:=q.2.2 0 (by omega);have:=q.2.2 1 (by omega);have:=a3.2.2 0 (by omega);have:=a3.2.2 1 (by omega);have:=a3.2.2 2 (by omega);omega
  |4,_,c,a=>
   have a0:=a 0 (by omega);have g:=a 1 (by omega);have q:=a 2 (by omega);have a3:=a 3 (by omega);have a4:=a 4 (by omega)
   grind
structure AZk(h:AE):Prop where
 rules:D7 h.AS=true
 Dj:1<=h.AS.AY.length/\h.AS.AY.length<=4
 AZm:1<=h.AS.C5/\h.AS.C5<=3
 few:h.AG.length<=40
 par:∀i (hi:i<h.AG.length),D6 h.AS h.AG[i] h.Now=true
 EL:h.AI.length=h.AS.AY.length
 cab:∀i (hi:i<h.AI.length),h.AI[i]=lH h.AS h.AG h.Now i (fr h.AI[i])/\0<=fr h.AI[i]/\fr h.AI[i]<=h.AS.AY.getD i 0/\DO h.AG i<=10
 todo:h.BA.length<=h.AS.AY.length
 R3:(h.A4.length:Int)=h.AS.C5
 job:∀x∈h.A4,-1<=x/\x<4
theorem w6{w:Aq}(a:Gx w=true):(Lt (Ek w)).1=w:=by
 unfold Ek;rw[AX a,nV (Ds.1 a)]
theorem OO{h:AE}(O:DE h=true):AZk h:=by
 obtain⟨q,h2,h3,E,G,H,I,J,L,g⟩:=JI O;have j:=CK q;have hcrew:1<=h.AS.C5/\h.AS.C5<=3:=j.2.2.2.2.2.2.2.2.2;refine⟨q,j.1,hcrew,E,?_,G,?_,?_,L,?_⟩
 .intro i hi;have:=JT.1 H i hi;unfold bE at this;rw[CR hi,AF]at this;exact this.1
 .intro i hi;have y:i<h.AS.AY.length:=by omega
  have a:=JT.1 g i hi;unfold Vw at a;rw[CR hi,CR y]at a;unfold Jy LN FL at a;simp only[AF,beq_iff_eq,CP,BG,decide_eq_false_iff_not,Hs cM,Hs cO]at a;obtain⟨S,⟨⟨⟨l1,l2,l3,l4,l5,l6⟩,k3,X⟩,Y,Z,k7,k8⟩,k9⟩:=a;have hD:h.AS.AY.getD i 0=h.AS.AY[i]:=by simp[List.getD,y]
  have hroom:=j.2.2.1;have B:=w6 X;rw[Z]at B;unfold lH fr;rw[hD,<-Y,<-k7,<-k8,<-S,B];generalize h.AI[i]=c at *;obtain⟨⟨t,f,e,s,td⟩,row,wh⟩:=c;dsimp only at *;have e1:w64 (f+e)=f+e:=A6 (by omega) (by omega);have e2:w64 (f+e+s)=f+e+s:=A6 (by omega) (by omega)
  grind[A6]
 .have:=AT2 (by omega) I;omega
 .intro x Q;have:=List.all_eq_true.1 J x Q;rw[CP,A6 (by omega) (by omega)]at this;omega
def Kx(l:List Int):Ab×Bool:=
 match l with
 |a::b::c::d::e::f::g::i::x::s=>if D7 ⟨x::s,a,b,c,d,e,f,g,i⟩=true then (⟨x::s,a,b,c,d,e,f,g,i⟩,true) else (xu,false)|_=>(xu,false)
theorem mH{l:List Int}(h:(Kx l).2=true):D7 (Kx l).1=true/\KV (Kx l).1=l:=by
 unfold Kx at *;split at h
 .split at h
  .rename_i a;rw[AX a];exact⟨a,rfl⟩
  .cases h
 .cases h
theorem NJ{r:Ab}(h:D7 r=true):Kx (KV r)=(r,true):=by
 have j:=(CK h).1.1;obtain⟨s,a,b,c,d,e,f,g,i⟩:=r
 match s,j with
 |x::s,_=>
  show (if D7 _=true then _ else _)=_;rw[AX h]
theorem xX{l:List Int}(hl:l.length<=1048576):AHD l=some (Kx l):=by
 unfold AHD
 match l,hl with
 | [],_=>rfl| [_],_=>rfl| [_,_],_=>rfl| [_,_,_],_=>rfl| [_,_,_,_],_=>rfl| [_,_,_,_,_],_=>rfl| [_,_,_,_,_,_],_=>rfl| [_,_,_,_,_,_,_],_=>rfl| [_,_,_,_,_,_,_,_],_=>rfl|a::b::c::d::e::f::g::i::x::s,hl=>
  simp only[AH]at hl;have O:(x::s).length<2 ^ 62:=by simp only[AH];omega
  rw[BL,AU (by simp only[AH];omega)];have h:at? (a::b::c::d::e::f::g::i::x::s) 0=some a:=rfl;have j:at? (a::b::c::d::e::f::g::i::x::s) 1=some b:=rfl;have q:at? (a::b::c::d::e::f::g::i::x::s) 2=some c:=rfl;have y:at? (a::b::c::d::e::f::g::i::x::s) 3=some d:=rfl;have B:at? (a::b::c::d::e::f::g::i::x::s) 4=some e:=rfl;have E:at? (a::b::c::d::e::f::g::i::x::s) 5=some f:=rfl;have G:at? (a::b::c::d::e::f::g::i::x::s) 6=some g:=rfl;have H:at? (a::b::c::d::e::f::g::i::x::s) 7=some i:=rfl;have I:List.drop (Int.toNat 8) (a::b::c::d::e::f::g::i::x::s)=x::s:=rfl;have J:(0:Int)<=8/\(8:Int)<=((a::b::c::d::e::f::g::i::x::s).length:Int):=by simp only[AH];omega
  have hlim:lim=268435456:=rfl;have L:0+(x::s).length<=lim:=by simp only[AH];omega
  simp only[h,j,q,y,B,E,G,H,I,AB,B6 J,B6 L,Cm,JW,JX,JY,JZ,I3,Ja,Jb,List.nil_append,IH (r:=⟨x::s,a,b,c,d,e,f,g,i⟩) O,BP];unfold Kx;dsimp only;cases D7 ⟨x::s,a,b,c,d,e,f,g,i⟩<;>rfl
theorem vO{l:List Int}(hl:l.length<=1048576):AHQ l=some (Kx l):=by
 unfold AHQ
 match l,hl with
 | [],_=>rfl| [_],_=>rfl| [_,_],_=>rfl| [_,_,_],_=>rfl| [_,_,_,_],_=>rfl| [_,_,_,_,_],_=>rfl| [_,_,_,_,_,_],_=>rfl| [_,_,_,_,_,_,_],_=>rfl| [_,_,_,_,_,_,_,_],_=>rfl|a::b::c::d::e::f::g::i::x::s,hl=>
  simp only[AH]at hl;have O:(x::s).length<2 ^ 62:=by simp only[AH];omega
  rw[BL,AU (by simp only[AH];omega)];have h:at? (a::b::c::d::e::f::g::i::x::s) 0=some a:=rfl;have j:at? (a::b::c::d::e::f::g::i::x::s) 1=some b:=rfl;have q:at? (a::b::c::d::e::f::g::i::x::s) 2=some c:=rfl;have y:at? (a::b::c::d::e::f::g::i::x::s) 3=some d:=rfl;have B:at? (a::b::c::d::e::f::g::i::x::s) 4=some e:=rfl;have E:at? (a::b::c::d::e::f::g::i::x::s) 5=some f:=rfl;have G:at? (a::b::c::d::e::f::g::i::x::s) 6=some g:=rfl;have H:at? (a::b::c::d::e::f::g::i::x::s) 7=some i:=rfl;have I:List.drop (Int.toNat 8) (a::b::c::d::e::f::g::i::x::s)=x::s:=rfl;have J:(0:Int)<=8/\(8:Int)<=((a::b::c::d::e::f::g::i::x::s).length:Int):=by simp only[AH];omega
  have L:Kk (x::s)=some (x::s):=Vz (by simp only[AH];omega);simp only[h,j,q,y,B,E,G,H,I,AB,B6 J,L,Cm,JW,JX,JY,JZ,I3,Ja,Jb,IB (r:=⟨x::s,a,b,c,d,e,f,g,i⟩) O,BP];unfold Kx;dsimp only;cases D7 ⟨x::s,a,b,c,d,e,f,g,i⟩<;>rfl
theorem AUw(x y:Int):(x==y)=true↔x=y:=beq_iff_eq
theorem JC{a b:List Int}(hl:a.length<2 ^ 62):gF a b=some (EZ (·==·) a b):=by
 grind[gF,TQ,AAD,BJ,BH,AB,AAC,BT,AR]
theorem Oe{a b:List Int}(hl:a.length<2 ^ 62):fq a b=some (EZ (·==·) a b):=by
 grind[fq,TQ,zy,BJ,BH,AB,zx,BT,AR]
def rd(l:List Int)(k:Nat)(b:Bool):DX:=⟨l,(k:Int),b⟩
theorem vZ{l:List Int}{k:Nat}{b:Bool}(hl:l.length<=1048576)(q:k<=l.length) :
 ∃n a c,aR (rd l k b)=some (n,rd l a c)/\a<=l.length/\∀x rest,l.drop k=x::rest->n=x/\l.drop a=rest/\c=b:=by
 unfold aR;rw[BL];rcases AV k l.length with h|h
 .rw[AU (show ¬((rd l k b).at_>=((rd l k b).TE.length:Int)) from by show ¬((k:Int)>=(l.length:Int));omega)];have g:w64 ((k:Int)+1)=((k+1:Nat):Int):=Bg h (by omega);have j:w64 (((k+1:Nat):Int)-1)=(k:Int):=by rw[A6 (by omega) (by omega)];omega
  show ∃n a c,(bd (at? l (w64 (w64 ((k:Int)+1)-1))) fun y=>some (y,DX.mk l (w64 ((k:Int)+1)) b))=_/\_;rw[g,j,BH h,AB];refine⟨_,k+1,b,rfl,by omega,fun x rest e=>?_⟩
  grind[Dc]
 .rw[AX (show (rd l k b).at_>=((rd l k b).TE.length:Int) from by show (k:Int)>=(l.length:Int);omega)];refine⟨0,k,true,rfl,q,fun x rest e=>?_⟩;rw[A5 h]at e;cases e
theorem bn{l:List Int}{k:Nat}{b:Bool}(hl:l.length<=1048576)(y:k<=l.length){m:Int}(B:0<=m) :
 ∃n a c,aS (rd l k b) m=some (n,rd l a c)/\a<=l.length/\0<=n/\n<=m/\∀x rest,l.drop k=x::rest->0<=x->x<=m->n=x/\l.drop a=rest/\c=b:=by
 obtain⟨n,a,c,g,h,q⟩:=vZ (b:=b) hl y;unfold aS;rw[g,AB,GN,AB,BP];cases e:inB n 0 m with
 |true=>
  rw[CP]at e;exact⟨n,a,c,rfl,h,e.1,e.2,fun x rest j _ _=>q x rest j⟩
 |false=>
  refine⟨0,a,true,rfl,h,by omega,B,fun x rest j E g=>?_⟩
  grind[inB]
theorem ve{l:List Int}{k:Nat}{b:Bool}(hl:l.length<=1048576)(Z:k<=l.length){n:Nat}(hn:n<=1048576) :
 ∃xs a e,aU (rd l k b) (n:Int)=some (xs,rd l a e)/\a<=l.length/\xs.length=n/\∀ys rest,l.drop k=ys++rest->ys.length=n->xs=ys/\l.drop a=rest/\e=b:=by
 unfold aU;have key:=JR (F:=gC (n:Int)) (n:=n) (fun i (v:List Int×Nat×Bool)=>(v.1,(i:Int),rd l v.2.1 v.2.2))
  (fun i v=>v.1.length=i/\v.2.1<=l.length/\∀ys rest,l.drop k=ys++rest->ys.length=n->v.1=ys.take i/\l.drop v.2.1=ys.drop i++rest/\v.2.2=b)
  (fun r:List Int×DX=>∃a e,r.2=rd l a e/\a<=l.length/\r.1.length=n/\∀ys rest,l.drop k=ys++rest->ys.length=n->r.1=ys/\l.drop a=rest/\e=b) (by omega) ?_ (v:=([],k,b)) ⟨rfl,Z,fun ys rest h _=>⟨by simp,by simpa using h,rfl⟩⟩
 .obtain⟨r,hr,a,e,y,S,X,Y⟩:=key;exact⟨r.1,a,e,by rw[<-y];exact hr,S,X,Y⟩
 .rintro L i ⟨xs,q,c⟩ ⟨B,E,G⟩ hi H;dsimp only at B E G H ⊢;unfold gC;dsimp only;rcases AV i n with h|h
  .obtain⟨x,q',I,J,O,Q⟩:=vZ (b:=c) hl E;have hlim:lim=268435456:=rfl;rw[B7 h,BJ,J,AB,B6 (by rw[Ka];omega),Bg h (by omega)];refine H (xs++[x],q',I) ⟨by simp[B],O,fun ys rest hy j=>?_⟩ h;obtain⟨p1,p2,p3⟩:=G ys rest hy j;have g:i<ys.length:=by omega
   rw[Dc g]at p2;obtain⟨u1,u2,u3⟩:=Q _ _ p2;refine⟨?_,u2,u3.trans p3⟩;rw[p1,u1,Cw,AW g];rfl
  .obtain rfl:i=n:=by omega
   rw[Cl,BT,AR];unfold AAA
   grind
theorem ten{α:Type}{l:List α}(h:l.length=10):∃a b c d e f g i j k,l=[a,b,c,d,e,f,g,i,j,k]:=by
 match l,h with
 | [a,b,c,d,e,f,g,i,j,k],_=>exact⟨a,b,c,d,e,f,g,i,j,k,rfl⟩
theorem AVQ{l:List Int}{k:Nat}{b:Bool}(hl:l.length<=1048576)(hk:k<=l.length) :
 ∃p B E,AHE (rd l k b)=some (p,rd l B E)/\B<=l.length/\∀(q:AQ) rest,l.drop k=LK q++rest -> -1<=q.Bl->q.Bl<=1048576->p=q/\l.drop B=rest/\E=b:=by
 obtain⟨xs,B,E,Z,h2,h3,h4⟩:=ve (b:=b) hl hk (n:=10) (by omega);obtain⟨a0,c,a,a3,a4,e,g,h,j,y,rfl⟩:=ten h3;unfold AHE;rw[show (10:Int)=((10:Nat):Int) from rfl,Z,AB];have G:at? [a0,c,a,a3,a4,e,g,h,j,y] 0=some a0:=rfl;have H:at? [a0,c,a,a3,a4,e,g,h,j,y] 1=some c:=rfl;have I:at? [a0,c,a,a3,a4,e,g,h,j,y] 2=some a:=rfl;have J:at? [a0,c,a,a3,a4,e,g,h,j,y] 3=some a3:=rfl;have L:at? [a0,c,a,a3,a4,e,g,h,j,y] 4=some a4:=rfl;have O:at? [a0,c,a,a3,a4,e,g,h,j,y] 5=some e:=rfl;have Q:at? [a0,c,a,a3,a4,e,g,h,j,y] 6=some g:=rfl;have S:at? [a0,c,a,a3,a4,e,g,h,j,y] 7=some h:=rfl;have X:at? [a0,c,a,a3,a4,e,g,h,j,y] 8=some j:=rfl;have Y:at? [a0,c,a,a3,a4,e,g,h,j,y] 9=some y:=rfl;simp only[G,H,I,J,L,O,Q,S,X,Y,AB,ML];refine⟨_,B,E,rfl,h2,fun q rest hq hf hf2=>?_⟩;obtain⟨p1,p2,p3⟩:=h4 (LK q) rest hq rfl;refine⟨?_,p2,p3⟩;unfold LK at p1;simp only[Cc,and_true]at p1;obtain⟨q0,q1,q2,q3,q4,q5,q6,q7,q8,q9⟩:=p1;rw[A6 (by omega) (by omega)]at q2;have hfrom:w64 ((if a>0 then a else 0)-1)=q.Bl:=by
  grind[A6]
 rw[hfrom,q0,q1,q3,q4,q5,q6,q7,q8,q9]
def tl4(g:AE):List Int:=(g.BA.length:Int)::(g.BA++g.A4.map up)
def tl3(g:AE)(i:Nat):List Int:=(g.AI.drop i).map fr++tl4 g
def tl2(g:AE)(i:Nat):List Int:=(g.AG.drop i).flatMap LK++tl3 g 0
theorem qA{g:AE}{l:List Int}(h:Good g l):l=((KV g.AS).length:Int)::(KV g.AS++(g.Now::g.Av::(g.AG.length:Int)::tl2 g 0)):=by
 rw[<-h.2.2,lO];simp only[tl2,tl3,tl4,Cu]
def Hd(g:AE)(R:Ab)(now turn:Int):Prop:=g.AS=R/\g.Now=now/\g.Av=turn
theorem qE{h:AE}{R:Ab}(hR:h.AS=R):AE.mk (Ab.mk R.AY R.CX R.Room R.BC R.CQ R.B3 R.Rest R.Cb R.C5) h.Now h.Av h.AG h.AI h.BA h.A4=h:=by
 subst hR;rfl
theorem QO{a b:List Int}:EZ (·==·) a b=true↔a=b:=Hs AUw
def jb(j:Int):Int:=w64 ((if j > -5 then j else -5)-1)
theorem AYJ{x:Int}(h:-1<=x)(a:x<4):jb (up x)=x:=by
 unfold jb up
 grind[A6]
section spec
variable{l:List Int}(hl:l.length<=1048576){R:Ab×Bool}{now turn:Int}
include hl
theorem AYl{x:List Int×DX}{h:AE}(hR:h.AS=R.1)(e:Bk h)(c:∀g,Good g l->g=h/\x.2.yI=false) :
 ∃r,Sa l R x ((),R.1.CX,R.1.Room,R.1.BC,R.1.CQ,R.1.B3,R.1.Rest,R.1.Cb,R.1.C5,h.Now,h.Av,h.AG,h.AI,h.BA,h.A4)=some r/\Red l r:=by
 unfold Sa Wl;dsimp only;rw[qE hR];cases q:x.2.yI with
 |true=>
  rw[BJ,AR,BJ];exact⟨_,rfl,Red.bad fun g a=>by have:=(c g a).2;rw[q]at this;cases this⟩
 |false=>
  rw[BT,GK e,AB,BP];cases hB:DE h with
  |false=>
   rw[BT,AR,BJ];exact⟨_,rfl,Red.bad fun g a=>by rw[(c g a).1]at a;rw[a.1]at hB;cases hB⟩
  |true=>
   have B:=T2 e hB;rw[BJ,rN e hB,AB,JC (by omega),AB,AR,BP];cases j:EZ (·==·) (F7 h) l with
   |true=>
    rw[BJ];exact⟨_,rfl,fun _=>⟨⟨hB,e,QO.1 j⟩,fun g a=>(c g a).1⟩,fun y=>by cases y⟩
   |false=>
    rw[BT];refine⟨_,rfl,Red.bad fun g a=>?_⟩;rw[(c g a).1]at a;rw[QO.2 a.2.2]at j;cases j
theorem AYo{x:List Int×DX}{ps:List AQ}{cs:List Ae}{td:List Int}(g:x.1.length<=1048576) :
 BB (hH l R x) big (0,(),R.1.CX,R.1.Room,R.1.BC,R.1.CQ,R.1.B3,R.1.Rest,R.1.Cb,R.1.C5,now,turn,ps,cs,td,[]) =
  Sa l R x ((),R.1.CX,R.1.Room,R.1.BC,R.1.CQ,R.1.B3,R.1.Rest,R.1.Cb,R.1.C5,now,turn,ps,cs,td,x.1.map jb):=by
 refine C9 (n:=x.1.length) (fun i (v:List Int)=>((i:Int),(),R.1.CX,R.1.Room,R.1.BC,R.1.CQ,R.1.B3,R.1.Rest,R.1.Cb,R.1.C5,now,turn,ps,cs,td,v)) (fun i v=>v=(x.1.take i).map jb)
  (fun _ _=>Sa l R x ((),R.1.CX,R.1.Room,R.1.BC,R.1.CQ,R.1.B3,R.1.Rest,R.1.Cb,R.1.C5,now,turn,ps,cs,td,x.1.map jb)) (by omega) ?_ (v:=[]) (by simp)
 intro L i v a hi e;unfold hH;dsimp only;rcases AV i x.1.length with h|h
 .have hlim:lim=268435456:=rfl;have c:v.length<=1048576:=by rw[a,An,BI];omega
  simp only[B7 h,BJ,BH h,AB,ML,Bg h (by omega:x.1.length<2 ^ 63)];rw[B6 (by rw[Ka];omega)];refine e _ ?_ h;rw[a,Cw,AW h,List.map_append];rfl
 grind[BT,AR]
theorem AYk(hr:D7 R.1=true){ps:List AQ}{cs:List Ae}{k:Nat}{b:Bool}(hk:k<=l.length)(B:ps.length<=1048576)(q:cs.length<=1048576)(j:∀c∈cs,EE c)
 (ha:∀g,Good g l->Hd g R.1 now turn/\g.AG=ps/\g.AI=cs/\l.drop k=tl4 g/\b=false) :
 ∃r,gz l R ((),R.1.CX,R.1.Room,R.1.BC,R.1.CQ,R.1.B3,R.1.Rest,R.1.Cb,R.1.C5,now,turn,ps,cs,[],[],rd l k b)=some r/\Red l r:=by
 have E:=CK hr;have hcrew:=E.2.2.2.2.2.2.2.2.2;unfold gz;dsimp only;obtain⟨nt,k1,J,O,Q,S,e4,X⟩:=bn (b:=b) hl hk (m:=(R.1.AY.length:Int)) (by omega);obtain⟨n,rfl⟩:=Ac S;obtain⟨td,k2,G,Y,Z,f3,f4⟩:=ve (b:=J) hl Q (n:=n) (by omega);obtain⟨c,H⟩:=Ac (show 0<=R.1.C5 by omega);obtain⟨js,k3,L,g1,g2,g3,g4⟩:=ve (b:=G) hl Z (n:=c) (by omega);rw[O,AB];dsimp only;rw[Y,AB];dsimp only;have e:aU (rd l k2 G) R.1.C5=some (js,rd l k3 L):=by rw[H];exact g1
 rw[e,AB];rw[AYo hl (by dsimp only;omega)];refine AYl hl (h:=⟨R.1,now,turn,ps,cs,td,js.map jb⟩) rfl ⟨by dsimp only;omega,B,q,j,by dsimp only;omega,by dsimp only;rw[An];omega⟩ ?_;intro g I;obtain⟨⟨q1,q2,q3⟩,q4,q5,q6,q7⟩:=ha g I;have a:=OO I.1;obtain⟨u1,u2,u3⟩:=X _ _ q6 (by omega) (by have:=a.todo;rw[q1]at this;omega);obtain⟨v1,v2,v3⟩:=f4 _ _ u2 (by omega);obtain⟨w1,w2,w3⟩:=g4 (g.A4.map up) [] (by rw[v2,Kc]) (by rw[An];have:=a.R3;rw[q1,H]at this;omega);have hj:js.map jb=g.A4:=by
  rw[w1,D1]
  conv=>rhs;rw[<-AaM g.A4]
  apply AaL;intro y hy;have:=a.job y hy;exact AYJ this.1 this.2
 refine⟨?_,by dsimp only[rd];rw[w3,v3,u3,q7]⟩;rw[hj,v1];cases g
 grind
theorem AYn(X:D7 R.1=true){ps:List AQ}{k:Nat}{b:Bool}(hk:k<=l.length)(hps:ps.length<=40)
 (ha:∀g,Good g l->Hd g R.1 now turn/\g.AG=ps/\l.drop k=tl3 g 0/\b=false) :
 ∃r,gy l R ((),R.1.CX,R.1.Room,R.1.BC,R.1.CQ,R.1.B3,R.1.Rest,R.1.Cb,R.1.C5,now,turn,ps,[],[],[],rd l k b)=some r/\Red l r:=by
 have O:=CK X;unfold gy;dsimp only;refine JR (n:=R.1.AY.length) (fun i (v:List Ae×Nat×Bool)=>((i:Int),(),R.1.CX,R.1.Room,R.1.BC,R.1.CQ,R.1.B3,R.1.Rest,R.1.Cb,R.1.C5,now,turn,ps,v.1,[],[],rd l v.2.1 v.2.2))
  (fun i v=>v.1.length=i/\(∀c∈v.1,EE c)/\v.2.1<=l.length/\∀g,Good g l->Hd g R.1 now turn/\g.AG=ps/\v.1=g.AI.take i/\l.drop v.2.1=tl3 g i/\v.2.2=false)
  (Red l) (by omega) ?_ (v:=([],k,b)) ⟨rfl,by simp,hk,fun g j=>by obtain⟨h1,h2,h3,h4⟩:=ha g j;exact⟨h1,h2,by simp,h3,h4⟩⟩
 rintro L i ⟨cs,q,c⟩ ⟨S,gf,H,I⟩ hi Y;dsimp only at S gf H I Y ⊢;unfold AAa;dsimp only;rcases AV i R.1.AY.length with h|h
 .have hseat:=O.2.2.2.2.2.1 _ (As h);have hD:R.1.AY.getD i 0=R.1.AY[i]:=by simp[List.getD,h]
  obtain⟨a,q',c',e1,e2,e3,e4,e5⟩:=bn (b:=c) hl H (m:=R.1.AY[i]) (by omega);have J:(F9 ps (i:Int)).length<=1048576:=by
   unfold F9;rw[Ho];have:=Bv (MO (i:Int)) ps;omega
  have hlim:lim=268435456:=rfl;rw[B7 h,BJ,BH h];simp only[AB,e1,TV (show ps.length<=1048576 by omega),xY J,Ot (show ps.length<2 ^ 58 by omega),Ou (show ps.length<2 ^ 58 by omega),Cm,JW,JX,JY,JZ,I3,Ja,Jb,NN (r:=R.1) (show R.1.AY.length<2 ^ 62 by omega) (show ps.length<=1048576 by omega)];rw[B6 (by rw[Ka];omega),Bg h (by omega)];have B:Ae.mk (BE.mk R.1.AY[i] a (I5 ps i) (w64 (w64 (R.1.AY[i]-a)-I5 ps i)) (JU ps i)) (Dw R.1 ps i now) (Lt (F9 ps i)).1=lH R.1 ps now i a:=by unfold lH;rw[hD]
  rw[B];refine Y (cs++[lH R.1 ps now i a],q',c') ⟨by simp[S],?_,e2,fun g j=>?_⟩ h
  .intro x E;rcases CO.1 E with E|E
   .exact gf x E
   .rw[EM.1 E];refine⟨?_,bU _⟩;unfold lH Dw;dsimp only;rw[Ho];have:=Bv (K4 R.1 (i:Int) now) ps;omega
  .obtain⟨⟨p1,p2,p3⟩,p4,p5,G,Q⟩:=I g j;have e:=OO j.1;have y:i<g.AI.length:=by rw[e.EL,p1];exact h
   obtain⟨w1,w2,Z,w4⟩:=e.cab i y;unfold tl3 at G;rw[Dc y,AJ]at G;obtain⟨u1,u2,u3⟩:=e5 _ _ G w2 (by rw[p1,hD]at Z;exact Z);refine⟨⟨p1,p2,p3⟩,p4,?_,u2,u3.trans Q⟩;rw[Cw,AW y,p5,u1];rw[p1,p4,p2]at w1
   conv=>rhs;rw[w1]
   rfl
 .obtain rfl:i=R.1.AY.length:=by omega
  rw[Cl,BT,AR];refine AYk hl X H (by omega) (by omega) gf fun g j=>?_
  obtain⟨p1,p4,p5,G,Q⟩:=I g j;have e:=OO j.1;have hn:g.AI.length=R.1.AY.length:=by rw[e.EL,p1.1]
  refine⟨p1,p4,?_,?_,Q⟩
  .rw[p5,BU (by omega)]
  .rw[G];unfold tl3;rw[A5 (by omega)];rfl
theorem AYm(Y:D7 R.1=true){n:Int}{x:Int×DX}(hx:x.1=n)(O:0<=n)(hn:n<=40){k:Nat}{b:Bool}(hk:k<=l.length)
 (ha:∀g,Good g l->Hd g R.1 now turn/\(g.AG.length:Int)=n/\l.drop k=tl2 g 0/\b=false) :
 ∃r,BB (g9 l R x) big (0,(),R.1.CX,R.1.Room,R.1.BC,R.1.CQ,R.1.B3,R.1.Rest,R.1.Cb,R.1.C5,now,turn,[],[],[],[],rd l k b)=some r/\Red l r:=by
 have hrl:=CK Y;obtain⟨m,rfl⟩:=Ac O;refine JR (n:=m) (fun i (v:List AQ×Nat×Bool)=>((i:Int),(),R.1.CX,R.1.Room,R.1.BC,R.1.CQ,R.1.B3,R.1.Rest,R.1.Cb,R.1.C5,now,turn,v.1,[],[],[],rd l v.2.1 v.2.2))
  (fun i v=>v.1.length=i/\v.2.1<=l.length/\∀g,Good g l->Hd g R.1 now turn/\g.AG.length=m/\v.1=g.AG.take i/\l.drop v.2.1=tl2 g i/\v.2.2=false)
  (Red l) (by omega) ?_ (v:=([],k,b)) ⟨rfl,hk,fun g a=>by obtain⟨h1,h2,h3,h4⟩:=ha g a;exact⟨h1,by omega,by simp,h3,h4⟩⟩
 rintro L i ⟨ps,q,c⟩ ⟨X,J,B⟩ hi Z;dsimp only at X J B Z ⊢;unfold g9;dsimp only;rw[hx];rcases AV i m with h|h
 .obtain⟨p,q',S,e1,e2,e3⟩:=AVQ (b:=c) hl J;rw[B7 h,BJ,e1,AB];dsimp only;rw[NM (by omega),AB,BP];have E:∀g,Good g l->p=g.AG.getD i ⟨0,0,0,0,0,0,0,0,0,0⟩/\i<g.AG.length/\l.drop q'=tl2 g (i+1)/\S=false:=by
   intro g a;obtain⟨p1,p2,p3,p4,p5⟩:=B g a;have j:i<g.AG.length:=by omega
   have G:=FG ((OO a.1).par i j);have hs:=(CK G.1).1;unfold tl2 at p4;rw[Dc j,Ca,CC]at p4;obtain⟨H,y,I⟩:=e3 _ _ p4 G.2.2.2.2.1.1 (by omega);refine⟨?_,j,y,I.trans p5⟩;rw[H];simp[List.getD,j]
  cases Q:D6 R.1 p now with
  |true=>
   have hlim:lim=268435456:=rfl;rw[BJ,B6 (by rw[Ka];omega),Bg h (by omega)];refine Z (ps++[p],q',S) ⟨by simp[X],e2,fun g a=>?_⟩ h;obtain⟨p1,p2,p3,p4,p5⟩:=B g a;obtain⟨H,y,I,u4⟩:=E g a;refine⟨p1,p2,?_,I,u4⟩;rw[Cw,AW y,p3,H];simp[List.getD,y]
  |false=>
   rw[BT];refine⟨_,rfl,Red.bad fun g a=>?_⟩;obtain⟨p1,p2,p3,p4,p5⟩:=B g a;obtain⟨H,y,I,u4⟩:=E g a;have:=(OO a.1).par i y;rw[H]at Q;have e:g.AG.getD i ⟨0,0,0,0,0,0,0,0,0,0⟩=g.AG[i]:=by simp[List.getD,y]
   rw[e,<-p1.1,<-p1.2.1,this]at Q;cases Q
 .obtain rfl:i=m:=by omega
  rw[Cl,BT,AR];refine AYn hl Y J (by omega) fun g a=>?_
  obtain⟨p1,p2,p3,p4,p5⟩:=B g a;refine⟨p1,?_,?_,p5⟩
  .rw[p3,BU (by omega)]
  .rw[p4];unfold tl2;rw[A5 (by omega)];rfl
end spec
theorem xS{l:List Int}(hl:l.length<=1048576):∃r,AAZ l=some r/\Red l r:=by
 unfold AAZ;obtain⟨sz,k1,q,I,J,a3,a4,L⟩:=bn (l:=l) (k:=0) (b:=false) hl (Nat.zero_le _) (m:=12) (by omega);obtain⟨s,rfl⟩:=Ac a3;obtain⟨xs,k2,y,S,X,c3,c4⟩:=ve (b:=q) hl J (n:=s) (by omega);have h:aS (DX.mk l 0 false) 12=some ((s:Int),rd l k1 q):=I;rw[h,AB];dsimp only;rw[S,AB];dsimp only;rw[xX (by omega),AB,BP];have e:∀g,Good g l->xs=KV g.AS/\l.drop k2=g.Now::g.Av::(g.AG.length:Int)::tl2 g 0/\y=false:=by
  intro g c;have hn:=qA c;have B:=Lf g.AS;have a:=OO c.1;obtain⟨E,G,H⟩:=L _ _ (by rw[Cu];exact hn) (by omega) (by have:=a.Dj;omega)
  grind
 cases hR:(Kx xs).2 with
 |false=>
  rw[BT];refine⟨_,rfl,Red.bad fun g c=>?_⟩;rw[(e g c).1,NJ (OO c.1).rules]at hR;cases hR
 |true=>
  rw[BJ];have j:=(mH hR).1;obtain⟨n1,k3,O,Y,Z,d3⟩:=vZ (b:=y) hl X;obtain⟨n2,k4,Q,f1,f2,f3⟩:=vZ (b:=O) hl Z;obtain⟨n3,k5,b5,g1,g2,g3,g4,g5⟩:=bn (b:=Q) hl f2 (m:=40) (by omega);simp only[Y,AB,Cm,JW,JX,JY,JZ,I3,Ja,Jb,xp,f1,g1];refine AYm hl j (now:=n1) (turn:=n2) rfl g3 g4 g2 fun g c=>?_
  obtain⟨q1,q2,q3⟩:=e g c;have a:=OO c.1;obtain⟨E,G,H⟩:=d3 _ _ q2;obtain⟨v1,v2,v3⟩:=f3 _ _ G;obtain⟨w1,w2,w3⟩:=g5 _ _ v2 (by omega) (by have:=a.few;omega);refine⟨⟨?_,E.symm,v1.symm⟩,w1.symm,w2,by rw[w3,v3,H,q3]⟩;rw[q1,NJ a.rules]
end Lv.P
namespace Lv.P
open Lv Go
theorem kZ{r:Ab}(a:r.AY.length<2 ^ 62){l:List AQ}(hl:l.length<=40)(c now:Int):∃q,aJ r l c now=some q/\q.length<=40/\(DO l c<=19->q=Dw r l c now):=by
 by_cases e:DO l c<=19
 .refine⟨_,Q1 a (by omega) e now,?_,fun _=>rfl⟩;unfold Dw;rw[Ho];have:=Bv (K4 r c now) l;omega
 .have hlim:lim=268435456:=rfl;unfold aJ;rw[collect (l:=l) (K4 r c now) SG (by omega) ?_ ?_]
  .unfold SG;have:=Bv (K4 r c now) l;obtain⟨x,E,g⟩:=me (l:=l.filterMap (K4 r c now)) (by omega)
   grind[AB]
  .intro L i h v B;unfold SH V5 V6 K4;dsimp only;rw[B7 h,BJ,BH h,AB,NB a,AB,AR,AR,B6 (by rw[Ka];omega),AR,AR];cases j:(Ew r l[i] now).2<;>cases y:l[i].Aa==c<;>simp
  .intro L v;unfold SH;dsimp only;rw[Cl,BT,AR]
theorem nI{l:List AQ}(hl:l.length<=40)(c:Int):∃q,eF l c=some q/\q.length<=40/\(DO l c<=19->q=F9 l c):=by
 by_cases a:DO l c<=19
 .refine⟨_,av (by omega) a,?_,fun _=>rfl⟩;unfold F9;rw[Ho];have:=Bv (MO c) l;omega
 .have hlim:lim=268435456:=rfl;unfold eF;rw[collect (l:=l) (MO c) SL (by omega) ?_ ?_]
  .unfold SL;have:=Bv (MO c) l;obtain⟨x,B,e⟩:=xd (l:=l.filterMap (MO c)) (by omega)
   grind[AB]
  .intro L i h v y;unfold SM WG WH MO;dsimp only;rw[B7 h,BJ,BH h,AB,AR,AR,B6 (by rw[Ka];omega),AR,AR];cases g:l[i].State==2<;>cases j:l[i].Aa==c<;>simp
  .intro L v;unfold SM;dsimp only;rw[Cl,BT,AR]
theorem TY{n:Nat}{r:List Int}(c:r.length<=1048576):∃xs r',K6 (n:Int) r=some (xs,r')/\r'.length<=1048576/\(n<=10->xs.length=n)/\(n<=r.length->xs.length=n)/\xs.length<=n /\
 ∀ys a,r=ys++a->ys.length=n->xs=ys/\r'=a:=by
 grind[K6,gj,BL,AR,lim,B6,Int.toNat_natCast]
theorem AFi{α:Type}{l:List α}(h:l.length=1):∃a,l=[a]:=by
 match l,h with
 | [a],_=>exact⟨a,rfl⟩
theorem three{α:Type}{l:List α}(h:l.length=3):∃a b c,l=[a,b,c]:=by
 match l,h with
 | [a,b,c],_=>exact⟨a,b,c,rfl⟩
section impl
variable{l:List Int}(hl:l.length<=1048576){R:Ab×Bool}{now turn:Int}
include hl
theorem AYD{h:AE}(hR:h.AS=R.1)(c:Bk h)(e:∀g,Good g l->g=h) :
 ∃r,SR l R ((),R.1.CX,R.1.Room,R.1.BC,R.1.CQ,R.1.B3,R.1.Rest,R.1.Cb,R.1.C5,h.Now,h.Av,h.AG,h.AI,h.BA,h.A4)=some r/\Red l r:=by
 unfold SR fv;dsimp only;rw[qE hR,Fh c,AB,BP];cases hB:DE h with
 |false=>
  rw[BT,AR,BJ];exact⟨_,rfl,Red.bad fun g a=>by rw[e g a]at a;rw[a.1]at hB;cases hB⟩
 |true=>
  have y:=T2 c hB;rw[BJ,AKW c hB,AB,Oe (by omega),AB,AR,BP];cases j:EZ (·==·) (F7 h) l with
  |true=>
   rw[BJ];exact⟨_,rfl,fun _=>⟨⟨hB,c,QO.1 j⟩,fun g a=>e g a⟩,fun q=>by cases q⟩
  |false=>
   rw[BT];refine⟨_,rfl,Red.bad fun g a=>?_⟩;rw[e g a]at a;rw[QO.2 a.2.2]at j;cases j
theorem AYG{x:List Int×List Int}{ps:List AQ}{cs:List Ae}{td:List Int}(c:x.1.length<=1048576) :
 BB (fy l R x) big (0,(),R.1.CX,R.1.Room,R.1.BC,R.1.CQ,R.1.B3,R.1.Rest,R.1.Cb,R.1.C5,now,turn,ps,cs,td,[]) =
  SR l R ((),R.1.CX,R.1.Room,R.1.BC,R.1.CQ,R.1.B3,R.1.Rest,R.1.Cb,R.1.C5,now,turn,ps,cs,td,x.1.map (fun j=>w64 (j-1))):=by
 refine C9 (n:=x.1.length) (fun i (v:List Int)=>((i:Int),(),R.1.CX,R.1.Room,R.1.BC,R.1.CQ,R.1.B3,R.1.Rest,R.1.Cb,R.1.C5,now,turn,ps,cs,td,v)) (fun i v=>v=(x.1.take i).map (fun j=>w64 (j-1)))
  (fun _ _=>SR l R ((),R.1.CX,R.1.Room,R.1.BC,R.1.CQ,R.1.B3,R.1.Rest,R.1.Cb,R.1.C5,now,turn,ps,cs,td,x.1.map (fun j=>w64 (j-1)))) (by omega) ?_ (v:=[]) (by simp)
 intro L i v a hi e;unfold fy;dsimp only;rcases AV i x.1.length with h|h
 .grind[lim,BJ,BH,AB,Bg,B6,List.take_add_one]
 grind[BT,AR]
theorem AYC(hr:D7 R.1=true){ps:List AQ}{cs:List Ae}{rest:List Int}(hk:rest.length<=1048576)(L:ps.length<=1048576)(J:cs.length<=1048576)(I:∀c∈cs,EE c)
 (S:∀g,Good g l->Hd g R.1 now turn/\g.AG=ps/\g.AI=cs/\rest=tl4 g) :
 ∃r,fu l R (rest,(),R.1.CX,R.1.Room,R.1.BC,R.1.CQ,R.1.B3,R.1.Rest,R.1.Cb,R.1.C5,now,turn,ps,cs,[],[])=some r/\Red l r:=by
 have O:=CK hr;have hcrew:=O.2.2.2.2.2.2.2.2.2;unfold fu;dsimp only;obtain⟨a,r1,e1,e2,e3,_,_,e4⟩:=TY (n:=1) hk;obtain⟨nt,rfl⟩:=AFi (e3 (by omega));have G:K6 1 rest=some ([nt],r1):=e1;rw[G,AB,show at? [nt] 0=some nt from rfl,AB,Fq,AB,BP];have B:∀g,Good g l->nt=(g.BA.length:Int)/\r1=g.BA++g.A4.map up:=by
  intro g e;obtain⟨q1,Y,Z,Q⟩:=S g e;obtain⟨u1,u2⟩:=e4 [(g.BA.length:Int)] (g.BA++g.A4.map up) (by rw[Q];rfl) rfl;cases u1;exact⟨rfl,u2⟩
 cases q:inB nt 0 4 with
 |false=>
  rw[BT];refine⟨_,rfl,Red.bad fun g e=>?_⟩;have:=(OO e.1).todo;have:=(OO e.1).Dj;have:inB nt 0 4=true:=by rw[CP,(B g e).1];omega
  rw[q]at this;cases this
 |true=>
  rw[BJ];rw[CP]at q;obtain⟨n,rfl⟩:=Ac q.1;obtain⟨td,r2,f1,f2,f3,_,_,f4⟩:=TY (n:=n) e2;rw[f1,AB,Vz (by have:=f3 (by omega);dsimp only;omega),AB];obtain⟨c,X⟩:=Ac (show 0<=R.1.C5 by omega);obtain⟨js,r3,g1,g2,g3,_,_,g4⟩:=TY (n:=c) f2;have H:K6 R.1.C5 r2=some (js,r3):=by rw[X];exact g1
  have hjl:=g3 (by omega);have htl:=f3 (by omega);rw[H,AB];rw[AYG hl (by dsimp only;omega)];refine AYD hl (h:=⟨R.1,now,turn,ps,cs,td,js.map (fun j=>w64 (j-1))⟩) rfl ⟨by dsimp only;omega,L,J,I,by dsimp only;omega,by dsimp only;rw[An];omega⟩ ?_;intro g e;obtain⟨⟨q1,Y,Z⟩,Q,q5,q6⟩:=S g e;obtain⟨p1,p2⟩:=B g e;have E:=OO e.1;obtain⟨v1,v2⟩:=f4 _ _ p2 (by omega);obtain⟨w1,w2⟩:=g4 (g.A4.map up) [] (by rw[v2,Kc]) (by rw[An];have:=E.R3;rw[q1,X]at this;omega);have hj:js.map (fun j=>w64 (j-1))=g.A4:=by
   rw[w1,D1]
   conv=>rhs;rw[<-AaM g.A4]
   apply AaL;intro y hy;have:=E.job y hy;show w64 (w64 (y+1)-1)=y;rw[A6 (n:=y+1) (by omega) (by omega),A6 (by omega) (by omega)];omega
  rw[hj,v1];cases g;dsimp only at *;rw[q1,Y,Z,Q,q5]
theorem AYF(Q:D7 R.1=true){ps:List AQ}{rest:List Int}(hk:rest.length<=1048576)(B:ps.length<=40)
 (ha:∀g,Good g l->Hd g R.1 now turn/\g.AG=ps/\rest=tl3 g 0) :
 ∃r,ft l R (rest,(),R.1.CX,R.1.Room,R.1.BC,R.1.CQ,R.1.B3,R.1.Rest,R.1.Cb,R.1.C5,now,turn,ps,[],[],[])=some r/\Red l r:=by
 have hrl:=CK Q;unfold ft;dsimp only;refine JR (n:=R.1.AY.length) (fun i (v:List Ae×List Int)=>((i:Int),v.2,(),R.1.CX,R.1.Room,R.1.BC,R.1.CQ,R.1.B3,R.1.Rest,R.1.Cb,R.1.C5,now,turn,ps,v.1,[],[]))
  (fun i v=>v.1.length=i/\(∀c∈v.1,EE c)/\v.2.length<=1048576/\∀g,Good g l->Hd g R.1 now turn/\g.AG=ps/\v.1=g.AI.take i/\v.2=tl3 g i)
  (Red l) (by omega) ?_ (v:=([],rest)) ⟨rfl,by simp,hk,fun g j=>by obtain⟨h1,h2,h3⟩:=ha g j;exact⟨h1,h2,by simp,h3⟩⟩
 rintro L i ⟨cs,q⟩ ⟨O,gf,I,J⟩ hi S;dsimp only at O gf I J S ⊢;unfold z8;dsimp only;rcases AV i R.1.AY.length with h|h
 .have hD:R.1.AY.getD i 0=R.1.AY[i]:=by simp[List.getD,h]
  obtain⟨a,q',X,Y,Z,_,_,e4⟩:=TY (n:=1) I;obtain⟨f,rfl⟩:=AFi (Z (by omega));have H:K6 1 q=some ([f],q'):=X;obtain⟨qu,u1,u2,u3⟩:=kZ (r:=R.1) (show R.1.AY.length<2 ^ 62 by omega) B (i:Int) now;obtain⟨pi,v1,v2,v3⟩:=nI B (i:Int);have hlim:lim=268435456:=rfl;rw[B7 h,BJ,BH h];simp only[AB,H,show at? [f] 0=some f from rfl,u1,v1,vP (show pi.length<=1048576 by omega),au (show ps.length<2 ^ 58 by omega),aw (show ps.length<2 ^ 58 by omega),Cm,JW,JX,JY,JZ,I3,Ja,Jb];rw[B6 (by rw[Ka];omega),Bg h (by omega)];refine S (cs++[Ae.mk (BE.mk R.1.AY[i] f (I5 ps i) (w64 (w64 (R.1.AY[i]-f)-I5 ps i)) (JU ps i)) qu (Lt pi).1],q') ⟨by simp[O],?_,Y,fun g j=>?_⟩ h
  .intro x E;rcases CO.1 E with E|E
   .exact gf x E
   .rw[EM.1 E];exact⟨by dsimp only;omega,bU _⟩
  .obtain⟨⟨p1,p2,p3⟩,p4,p5,G⟩:=J g j;have e:=OO j.1;have y:i<g.AI.length:=by rw[e.EL,p1];exact h
   obtain⟨w1,w2,w3,w4⟩:=e.cab i y;unfold tl3 at G;rw[Dc y,AJ]at G;obtain⟨x1,x2⟩:=e4 [fr g.AI[i]] (((g.AI.drop (i+1)).map fr)++tl4 g) (by rw[G];rfl) rfl;cases x1;refine⟨⟨p1,p2,p3⟩,p4,?_,x2⟩
   grind[List.take_add_one,lH]
 .obtain rfl:i=R.1.AY.length:=by omega
  rw[Cl,BT,AR];refine AYC hl Q I (by omega) (by omega) gf fun g j=>?_
  obtain⟨p1,p4,p5,G⟩:=J g j;have e:=OO j.1;have hn:g.AI.length=R.1.AY.length:=by rw[e.EL,p1.1]
  refine⟨p1,p4,?_,?_⟩
  .rw[p5,BU (by omega)]
  .rw[G];unfold tl3;rw[A5 (by omega)];rfl
theorem AYE(Z:D7 R.1=true){n:Int}{x:List Int×List Int}(hx:at? x.1 2=some n)(Q:0<=n)(hn:n<=40){rest:List Int}(hk:rest.length<=1048576)
 (ha:∀g,Good g l->Hd g R.1 now turn/\(g.AG.length:Int)=n/\rest=tl2 g 0) :
 ∃r,BB (fw l R x) big (0,rest,(),R.1.CX,R.1.Room,R.1.BC,R.1.CQ,R.1.B3,R.1.Rest,R.1.Cb,R.1.C5,now,turn,[],[],[],[])=some r/\Red l r:=by
 have hrl:=CK Z;obtain⟨m,rfl⟩:=Ac Q;refine JR (n:=m) (fun i (v:List AQ×List Int)=>((i:Int),v.2,(),R.1.CX,R.1.Room,R.1.BC,R.1.CQ,R.1.B3,R.1.Rest,R.1.Cb,R.1.C5,now,turn,v.1,[],[],[]))
  (fun i v=>v.1.length=i/\v.2.length<=1048576/\∀g,Good g l->Hd g R.1 now turn/\g.AG.length=m/\v.1=g.AG.take i/\v.2=tl2 g i)
  (Red l) (by omega) ?_ (v:=([],rest)) ⟨rfl,hk,fun g H=>by obtain⟨h1,h2,h3⟩:=ha g H;exact⟨h1,by omega,by simp,h3⟩⟩
 rintro L i ⟨ps,q⟩ ⟨X,O,Y⟩ hi ih;dsimp only at X O Y ih ⊢;unfold fw;dsimp only;rw[hx,AB];rcases AV i m with h|h
 .obtain⟨xs,q',e1,e2,e3,_,_,e4⟩:=TY (n:=10) O;obtain⟨a0,c,a,a3,a4,e,j,y,B,E,rfl⟩:=ten (e3 (by omega));have J:K6 10 q=some ([a0,c,a,a3,a4,e,j,y,B,E],q'):=e1;have f0:at? [a0,c,a,a3,a4,e,j,y,B,E] 0=some a0:=rfl;have f1:at? [a0,c,a,a3,a4,e,j,y,B,E] 1=some c:=rfl;have f2:at? [a0,c,a,a3,a4,e,j,y,B,E] 2=some a:=rfl;have f3:at? [a0,c,a,a3,a4,e,j,y,B,E] 3=some a3:=rfl;have f4:at? [a0,c,a,a3,a4,e,j,y,B,E] 4=some a4:=rfl;have f5:at? [a0,c,a,a3,a4,e,j,y,B,E] 5=some e:=rfl;have f6:at? [a0,c,a,a3,a4,e,j,y,B,E] 6=some j:=rfl;have f7:at? [a0,c,a,a3,a4,e,j,y,B,E] 7=some y:=rfl;have f8:at? [a0,c,a,a3,a4,e,j,y,B,E] 8=some B:=rfl;have f9:at? [a0,c,a,a3,a4,e,j,y,B,E] 9=some E:=rfl;rw[B7 h,BJ,J];simp only[f0,f1,f2,f3,f4,f5,f6,f7,f8,f9,AB];have hlim:lim=268435456:=rfl;rw[B6 (by rw[Ka];omega),Bg h (by omega)];refine ih (ps++[⟨a0,c,w64 (a-1),a3,a4,e,j,y,B,E⟩],q') ⟨by simp[X],e2,fun g H=>?_⟩ h;obtain⟨p1,p2,p3,p4⟩:=Y g H;have G:i<g.AG.length:=by omega
  have I:=FG ((OO H.1).par i G);have hs:=(CK I.1).1;have hf:=I.2.2.2.2.1;unfold tl2 at p4;rw[Dc G,Ca,CC]at p4;obtain⟨S,u2⟩:=e4 (LK g.AG[i]) _ p4 rfl;refine⟨p1,p2,?_,u2⟩;rw[Cw,AW G,p3];dsimp only;congr 1;show [_]=[g.AG[i]];congr 1;unfold LK at S;simp only[Cc,and_true]at S;obtain⟨q0,q1,q2,q3,q4,q5,q6,q7,q8,q9⟩:=S;have hfrom:w64 (a-1)=g.AG[i].Bl:=by
   rw[q2,A6 (n:=g.AG[i].Bl+1) (by omega) (by omega),A6 (by omega) (by omega)];omega
  rw[hfrom,q0,q1,q3,q4,q5,q6,q7,q8,q9]
 .obtain rfl:i=m:=by omega
  rw[Cl,BT,AR];refine AYF hl Z O (by omega) fun g H=>?_
  grind[tl2]
end impl
theorem vH{l:List Int}(hl:l.length<=1048576):∃r,z7 l=some r/\Red l r:=by
 unfold z7;obtain⟨a,I,a1,a2,a3,_,_,a4⟩:=TY (n:=1) hl;obtain⟨sz,rfl⟩:=AFi (a3 (by omega));have Q:K6 1 l=some ([sz],I):=a1;rw[Q,AB,show at? [sz] 0=some sz from rfl,AB,Fq,AB,BP];have y:∀g,Good g l->sz=((KV g.AS).length:Int)/\I=KV g.AS++(g.Now::g.Av::(g.AG.length:Int)::tl2 g 0):=by
  intro g c;obtain⟨L,H⟩:=a4 [((KV g.AS).length:Int)] _ (qA c) rfl;cases L;exact⟨rfl,H⟩
 have hbadE:∀(_:∀g,¬Good g l),∃r,SQ l ([sz],I) sz true=some r/\Red l r:=by
  intro X;unfold SQ;rw[BJ];exact⟨_,rfl,Red.bad X⟩
 cases J:inB sz 9 12 with
 |false=>
  rw[BT,AR];refine hbadE fun g c=>?_
  have h1:=Lf g.AS;have h2:=(OO c.1).Dj;have:inB sz 9 12=true:=by rw[CP,(y g c).1];omega
  rw[J]at this;cases this
 |true=>
  rw[CP]at J;rw[BJ,AR];obtain⟨s,rfl⟩:=Ac (show 0<=sz by omega);dsimp only;by_cases B:(s:Int)>(I.length:Int)
  .rw[show decide ((s:Int)>(I.length:Int))=true from decide_eq_true B];refine hbadE fun g c=>?_
   obtain⟨L,H⟩:=y g c;rw[H,AK]at B;omega
  .rw[show decide ((s:Int)>(I.length:Int))=false from decide_eq_false B];unfold SQ;rw[BT];obtain⟨xs,r2,c1,c2,_,c3,_,c4⟩:=TY (n:=s) a2;have hxl:=c3 (by omega);rw[c1,AB];dsimp only;rw[vO (by omega),AB,BP];have e:∀g,Good g l->xs=KV g.AS/\r2=g.Now::g.Av::(g.AG.length:Int)::tl2 g 0:=by
    intro g c;obtain⟨L,H⟩:=y g c;exact c4 _ _ H (by omega)
   cases hR:(Kx xs).2 with
   |false=>
    rw[BT];refine⟨_,rfl,Red.bad fun g c=>?_⟩;rw[(e g c).1,NJ (OO c.1).rules]at hR;cases hR
   |true=>
    rw[BJ];have Y:=(mH hR).1;obtain⟨ys,Z,d1,d2,d3,_,_,d4⟩:=TY (n:=3) c2;obtain⟨E,G,j,rfl⟩:=three (d3 (by omega));have S:K6 3 r2=some ([E,G,j],Z):=d1;have q:∀g,Good g l->E=g.Now/\G=g.Av/\j=(g.AG.length:Int)/\Z=tl2 g 0:=by
     intro g c;obtain⟨L,H⟩:=e g c;obtain⟨O,v2⟩:=d4 [g.Now,g.Av,(g.AG.length:Int)] (tl2 g 0) (by rw[H];rfl) rfl;simp only[Cc,and_true]at O;exact⟨O.1,O.2.1,O.2.2,v2⟩
    rw[S,AB];dsimp only;rw[show at? [E,G,j] 0=some E from rfl,AB,show at? [E,G,j] 1=some G from rfl,AB,show at? [E,G,j] 2=some j from rfl,AB,Fq,AB,BP];cases h:inB j 0 40 with
    |false=>
     rw[BT];refine⟨_,rfl,Red.bad fun g c=>?_⟩;have h2:=(OO c.1).few;have:inB j 0 40=true:=by rw[CP,(q g c).2.2.1];omega
     rw[h]at this;cases this
    |true=>
     rw[BJ];rw[CP]at h;refine AYE hl Y (x:=([E,G,j],Z)) rfl h.1 h.2 d2 fun g c=>?_
     obtain⟨q1,q2,q3,q4⟩:=q g c;refine⟨⟨?_,q1.symm,q2.symm⟩,q3.symm,q4⟩;rw[(e g c).1,NJ (OO c.1).rules]
theorem rh{l:List Int}(hl:l.length<=1048576):∃r,AAZ l=some r/\z7 l=some r/\Red l r:=by
 obtain⟨r,c,a⟩:=xS hl;obtain⟨r',e,g⟩:=vH hl;exact⟨r,c,by rw[e,g.one a],a⟩
end Lv.P
namespace Lv.P
open Lv Go
theorem Ll:Bk Jh:=by constructor<;>simp[Jh,xu]
theorem Red.fit{l:List Int}{r:AE×Bool}(h:Red l r):Bk r.1:=by
 cases e:r.2 with
 |true=>exact(h.1 e).1.2.1|false=>rw[(h.2 e).1];exact Ll
theorem AR1:∀{l:List Int},(∀n∈l,okN n)->l.length<=(pL l).length
 | [],_=>by simp|n::l,h=>by
  have c:=AR1 fun m a=>h m (Ax _ a)
  have e:=wu (h n (Be ..));have:pL (n::l)=pN n++pL l:=rfl;rw[this,AK,AH];omega
structure AUD(s:List UInt8)(r:AE×Int×Bool):Prop where
 yes:r.2.2=true->DE r.1=true/\Bk r.1/\Et r.1 r.2.1=s
 no:r.2.2=false->r=(Jh,0,false)
 all:∀h q,DE h=true->Bk h->rdL (s.length+1) (s.drop 4)=some (q::F7 h)->Et h q=s->5<=s.length->r=(h,q,true)
theorem AUD.fit{s:List UInt8}{r:AE×Int×Bool}(h:AUD s r):Bk r.1:=by
 cases e:r.2.2 with
 |true=>exact(h.yes e).2.1|false=>rw[h.no e];exact Ll
theorem AVc{f:Nat}{s:List UInt8}{l:List Int}(h:rdL f s=some l):l.length<=s.length/\(s≠[]->l≠[]):=by
 obtain⟨a,c⟩:=Xu f s l h;refine⟨by rw[a];exact AR1 c,fun e hl=>?_⟩;rw[hl]at a;exact e a
theorem ACf{f g:Nat}{s:List UInt8}{l:List Int}(h:rdL f s=some l)(e:s.length<g):rdL g s=some l:=by
 obtain⟨a,c⟩:=Xu f s l h
 grind[xB]
theorem Oz{s:List UInt8}(hs:s.length<=1048576):∃r,AAc s=some r/\pF s=some r/\AUD s r:=by
 unfold AAc pF Wm iB;by_cases h5:s.length<5
 .rw[BL,BL,AX (by omega),AX (by omega),AR,BJ];exact⟨_,rfl,rfl,⟨fun h=>(by cases h),fun _=>rfl,fun _ _ _ _ _ _ h=>absurd h (by omega)⟩⟩
 have Q:(0:Int)<=4/\(4:Int)<=(s.length:Int):=by omega
 have hd:List.drop (Int.toNat 4) s=s.drop 4:=rfl;have y:(s.drop 4).length<=1048576:=by rw[BK];omega
 rw[BL,BL,AU (by omega),AU (by omega),AR,B6 Q,B6 Q,hd,XY y,YK y,AB,AB];have zz:AUD s (Jh,0,false)\/True:=.inr trivial;cases e:rdL ((s.drop 4).length+1) (s.drop 4) with
 |none=>
  refine⟨(Jh,0,false),?_,rfl,⟨fun h=>(by cases h),fun _=>rfl,fun h q _ _ c _ _=>?_⟩⟩
  .rw[BL];split<;>rfl
  .rw[ACf c (by omega)]at e;cases e
 |some l=>
  obtain⟨l1,l2⟩:=AVc e;have E:=l2 (by rw[<-List.length_pos_iff,BK];omega);obtain⟨q,t,rfl⟩:∃q t,l=q::t:=by
   cases l with
   |nil=>exact(E rfl).elim|cons q t=>exact⟨q,t,rfl⟩
  have H:t.length<=1048576:=by simp only[AH]at l1;omega
  have g1:(0:Int)<=1/\(1:Int)<=((q::t).length:Int):=by simp only[AH];omega
  have G:List.take ((q::t).length-Int.toNat 1) (List.drop (Int.toNat 1) (q::t))=t:=by
   show List.take ((q::t).length-1) t=t;exact BU (by simp only[AH];omega)
  have a0:at? (q::t) 0=some q:=rfl;obtain⟨r,i1,i2,I⟩:=rh H;have X:=I.fit;have a:∀h p,rdL (s.length+1) (s.drop 4)=some (p::F7 h)->p=q/\F7 h=t:=by
   intro h p c;rw[ACf c (by omega)]at e;cases e;exact⟨rfl,rfl⟩
  unfold iA;simp only[AFq,BP,BJ,B6 g1,G,i1,i2,AB,a0,Jv X q,Uf X q];cases Y:r.2 with
  |false=>
   simp only[BT,AR,BJ];refine⟨(Jh,0,false),?_,rfl,⟨fun h=>(by cases h),fun _=>rfl,fun h p g j c _ _=>?_⟩⟩
   .rw[BL];split<;>rfl
   .exact((I.2 Y).2 h ⟨g,j,(a h p c).2⟩).elim
  |true=>
   simp only[BJ,AR];obtain⟨⟨Z,c2,c3⟩,O⟩:=I.1 Y;by_cases hT:Et r.1 q=s
   .have B:=IX r.1 q;rw[hT]at B;rw[show (Et r.1 q != s)=false from by simp[hT],BT,BL,AU (by omega)];refine⟨_,rfl,rfl,⟨fun _=>⟨Z,c2,hT⟩,fun h=>(by cases h),fun h p g j c _ _=>?_⟩⟩;obtain⟨J,L⟩:=a h p c;rw[J,O h ⟨g,j,L⟩]
   .rw[show (Et r.1 q != s)=true from by simp[hT],BJ];refine⟨(Jh,0,false),?_,rfl,⟨fun h=>(by cases h),fun _=>rfl,fun h p g j c S _=>?_⟩⟩
    .rw[BL];split<;>rfl
    .obtain⟨J,L⟩:=a h p c;rw[J,O h ⟨g,j,L⟩]at S;exact(hT S).elim
def DQ(s:Bo)(k:Int):B0:=if (k.tmod 2==0)=true then s.FH else s.Odd
theorem HB(s:Bo)(k:Int):AAb s k=some (DQ s k):=by unfold AAb DQ br;split<;>rfl
theorem Oh(s:Bo)(k:Int):AAd s k=some (DQ s k):=by unfold AAd DQ br;split<;>rfl
theorem EW(s:Bo)(k:Int):∃r,FZ s k=some r/\OY s k=some r/\Bk r.1:=by
 unfold FZ OY;rw[HB,Oh,AB,AB,GQ,G5,AB,AB,BP,BP];cases h:Gb (DQ s k) with
 |false=>exact⟨_,rfl,rfl,Ll⟩|true=>
  unfold Gb at h;rw[AF,decide_eq_true_iff,CP]at h;obtain⟨r,a,c,e⟩:=Oz (s:=List.take (DQ s k).Safe.toNat (DQ s k).Data) (by rw[BI];omega);rw[BJ,BJ,B6 h.2,B6 h.2,a,c,AB];exact⟨r,rfl,rfl,e.fit⟩
end Lv.P
