/- Plain laws about what the program computes. -/
import Derived.Test.YtcmjfplpdjflnaaGreatKEc
import Derived.Test.YtcmjfplpdjflnaaGreatPFc
noncomputable section
set_option linter.unusedVariables false
set_option linter.unusedSimpArgs false
set_option linter.unusedSectionVars false
open Bool renaming and_eq_true->AF,and_false->DF,not_eq_true'->BG,true_eq_false->Dl
open Int renaming toNat_natCast->Ah
open List renaming any_cons->Lu,eraseP_cons_of_neg->AaJ,eraseP_cons_of_pos->AaK,filterMap_cons->Iv,filter_cons->Ep,flatten_append->ED,flatten_cons->EX,foldl_cons->Bw,getD_eq_getElem?_getD->BQ,getElem?_eq_getElem->AW,getElem_mem->As,length_take->BI,mem_cons->Ag,mem_cons_of_mem->Ax,mem_cons_self->Be,mem_or_eq_of_mem_set->E3,nil_append->B8,pairwise_cons->BW,pairwise_filterMap->FP,pairwise_iff_getElem->CZ,perm_middle->KJ,set_eq_take_append_cons_drop->FN
open Nat renaming add_assoc->CT,le_succ->C2,le_trans->Aw,lt_or_ge->AV
open Option renaming getD_some->KN
namespace Lv.P
open Lv Go
theorem JG{α:Type}(p:α->Bool):∀(l:List α) (s:Nat),(atF p l s = -1/\l.eraseP p=l/\l.any p=false) \/
 ∃k,∃h:k<l.length,atF p l s=((s+k:Nat):Int)/\l.eraseP p=l.take k++l.drop (k+1)/\l.any p=true/\p l[k]=true
 | [],s=>.inl ⟨rfl,rfl,rfl⟩|x::l,s=>by
  by_cases h:p x=true
  .grind[atF]
  .have g:p x=false:=by simpa using h
   rcases JG p l (s+1) with ⟨a,c,e⟩|⟨k,q,a,c,e,j⟩
   .grind[atF]
   grind[atF]
theorem Uo{l:List Ai}(a:l.length<=1048576)(id:Int):iK l id=some (l.eraseP (fun x=>x.Id==id),l.any fun x=>x.Id==id):=by
 grind[lim,iK,RS,AB,BL,JG,Ov,A6,B6]
theorem Va{l:List AQ}(a:l.length<=1048576)(id:Int):WZ l id=some (atF (fun x=>x.Id==id) l 0):=by
 grind[WZ,Qd,gT,BJ,BH,AB,gQ,BT,AR]
theorem nQ{l:List AQ}(g:l.length<=1048576)(id:Int):AHk l id=some (l.eraseP (fun x=>x.Id==id)):=by
 have hlim:lim=268435456:=rfl;unfold AHk;rw[Va g,AB,BL];rcases JG (fun x:AQ=>x.Id==id) l 0 with ⟨a,c,e⟩|⟨k,h,a,c,e,_⟩
 .grind[B6]
 grind[A6,B6]
def l8(l:BE)(n a b c d:Int):BE×Bool:=
 let l':BE:=⟨l.Total,w64 (l.Dh+w64 (a*n)),w64 (l.Eg+w64 (b*n)),w64 (l.Ff+w64 (c*n)),w64 (l.Fw+w64 (d*n))⟩
 if FL l=true/\inB n 0 60=true/\FL l'=true then (l',true) else (l,false)
theorem KX(l:BE)(n a b c d:Int):Wk l n a b c d=some (l8 l n a b c d):=by
 unfold Wk gx l8
 grind[PM,GN,AB,AR,Bn]
theorem nR(l:BE)(n:Int):AHh l n=some (l8 l n 0 0 0 1):=by unfold AHh;rw[KX,AB]
theorem bf(l:BE)(n:Int):AHl l n=some (l8 l n 0 0 0 (-1)):=by unfold AHl;rw[KX,AB]
theorem mY(l:BE)(n:Int):AAr l n=some (l8 l n (-1) 1 0 0):=by unfold AAr;rw[KX,AB]
theorem mW(l:BE)(n:Int):AHj l n=some (l8 l n 1 (-1) 0 0):=by unfold AHj;rw[KX,AB]
theorem mZ(l:BE)(n:Int):AHp l n=some (l8 l n 0 (-1) 1 0):=by unfold AHp;rw[KX,AB]
theorem mX(l:BE)(n:Int):AHn l n=some (l8 l n 1 0 (-1) 0):=by unfold AHn;rw[KX,AB]
def isP(p:BO)(x:BO):Bool:=x.At==p.At&&(x.Id==p.Id&&true)
def UN(w:Aq)(p:BO):Aq×Bool:=
 if Gx w=true/\1<=p.At then (⟨w.Am.set (p.At.tmod 9).toNat ((w.Am.getD (p.At.tmod 9).toNat []).eraseP (isP p))⟩,(w.Am.getD (p.At.tmod 9).toNat []).any (isP p)) else (w,false)
theorem Uq{w:Aq}(q:Cz w)(p:BO):pK w p=some (UN w p):=by
 have hlim:lim=268435456:=rfl;have J:=q.1;have y:=q.2;unfold pK UN;rw[Tg q,AB,HD q,AB,BP,AR,AR,Bn];by_cases c:Gx w=true
 .rw[AX c];unfold iI;rw[BL];by_cases E:p.At<1
  .rw[AX E,AU (by omega)]
  .rw[AU E,AX ⟨c,by omega⟩];obtain⟨m,S,e⟩:=bR (n:=p.At) (by omega);have hW:=Ds.1 c;have a:m<w.Am.length:=by have:=hW.1;omega
   have I:w.Am[m].length<=1048576:=Aw (KY a) y;rw[e,Ah];have H:w.Am.getD m []=w.Am[m]:=by rw[BQ,AW a];rfl
   rw[H];generalize g:w.Am[m]=s at I ⊢;have key:=C9 (F:=Wt w p w) (n:=s.length) (fun i (_:Unit)=>(i:Int)) (fun _ _=>True)
    (fun i _=>some (if (s.drop i).any (isP p)=true then ((⟨w.Am.set m (s.take i++(s.drop i).eraseP (isP p))⟩:Aq),true) else (w,false))) (by omega) ?_ (v:=()) trivial
   .have key':BB (Wt w p w) big 0=_:=key;rw[key'];simp only[List.drop_zero,List.take_zero,B8];split
    .rename_i h;rw[h]
    .rename_i h;have B:s.any (isP p)=false:=by simpa using h
     have G:s.eraseP (isP p)=s:=List.eraseP_of_forall_not fun x O=>by
      have:=List.any_eq_false.1 B x O;simpa using this
     rw[B,G,<-g,List.set_getElem_self]
   .intro L i _ _ hi Q;unfold Wt AAt;rw[e,BH a,AB,g];rcases AV i s.length with h|h
    .rw[B7 h,BJ];simp only[AB,BH h,Ah];rw[Dc h];show br (isP p s[i]) _ _=_;cases j:isP p s[i] with
     |true=>
      rw[BJ,Bg h (by omega),B6 ⟨by omega,by omega⟩,B6 ⟨by omega,by omega⟩,B6 (by rw[BI];simp;omega),B6 (by rw[List.length_append,BI];simp;omega)];simp only[Lu,j,Bool.true_or,if_true,AaK j,B8,Ah]
     |false=>
      rw[BT,Bg h (by omega),Q () trivial h];simp only[Lu,j,Bool.false_or,AaJ (show ¬isP p s[i]=true by rw[j];simp),List.take_succ_eq_append_getElem h,List.append_assoc,List.singleton_append]
    .have:i=s.length:=by omega
     subst this;rw[Cl,BT,AR,List.drop_length];rfl
 .rw[AU c,AU (by simp[c])];rfl
def GX(h:AE)(id:Int):Int:=atF (fun x:AQ=>x.Id==id) h.AG 0
theorem HA{h:AE}(a:Bk h)(id:Int):MF h id=some (GX h id):=by
 unfold MF;rw[Va a.CJ,AB];rfl
def yR:Ae:=⟨⟨0,0,0,0,0⟩,[],⟨[]⟩⟩
def wv:AQ:=⟨0,0,0,0,0,0,0,0,0,0⟩
theorem Fj{h:AE}{k:Int}(a:0<=k)(c:k<h.AI.length):at? h.AI k=some (h.AI.getD k.toNat yR):=by
 grind[BH]
theorem Yb{h:AE}{k:Int}(a:0<=k)(c:k<h.AG.length):at? h.AG k=some (h.AG.getD k.toNat wv):=by
 grind[BH]
theorem RG{h:AE}{id:Int}(a:0<=GX h id):GX h id<h.AG.length/\(h.AG.getD (GX h id).toNat wv).Id=id:=by
 grind[GX,JG]
def KC(h:AE)(k:Int):Int:=w64 ((h.AI.getD k.toNat yR).AY.Ff-(h.AI.getD k.toNat yR).AY.Fw)
theorem Ur{h:AE}{k:Int}(a:0<=k)(c:k<h.AI.length):AAY h k=some (KC h k):=by
 unfold AAY;rw[Fj a c,AB,AB];rfl
def Xc(h:AE)(q:B1):Int:=
 if (h.AI.length:Int)<=q.Aa\/(h.AI.length:Int)<=q.Bl\/q.Bl=q.Aa then 4
 else if inB q.BC 1 h.AS.BC=false then 5
 else if h.AS.CX<=q.Cs then 6
 else if inB q.Id 1 999=false then 7
 else if 0<=GX h q.Id then 8
 else if h.AS.Room<=DO h.AG q.Aa then 9
 else if 0<=q.Bl/\KC h q.Bl<q.BC then 10
 else if 1000000<h.Av then 11 else 0
theorem xa{h:AE}(a:Bk h)(q:B1):AHS h q=some (Xc h q):=by
 have j:=a.CJ;have g:∀b,((h.AI.length:Int)<=q.Bl->b=true)->SY h q b=some (if b=true then 4
  else if inB q.BC 1 h.AS.BC=false then 5
  else if h.AS.CX<=q.Cs then 6
  else if inB q.Id 1 999=false then 7
  else if 0<=GX h q.Id then 8
  else if h.AS.Room<=DO h.AG q.Aa then 9
  else if 0<=q.Bl/\KC h q.Bl<q.BC then 10
  else if 1000000<h.Av then 11 else 0):=by
  intro b c;unfold SY gn;cases b with
  |true=>rfl|false=>
   have hF:q.Bl<h.AI.length:=by
    by_cases e:(h.AI.length:Int)<=q.Bl
    .cases c e
    .omega
   simp only[BT,GN,AB,BP,Bn,Bool.false_eq_true,if_false,ge_iff_le,gt_iff_lt,decide_eq_true_eq,HA a,NL (show h.AG.length<2 ^ 58 by omega),AR];cases inB q.BC 1 h.AS.BC
   .rfl
   .grind[Ur,AB]
 grind[AHS,Xc,BL,AR]
def ANx(p:AQ)(now:Int):Bool:=p.State==2&&decide (p.Ci<=now)
theorem ATd(p:AQ)(now:Int):AHT p now=some (ANx p now):=by
 unfold AHT gq ANx;rw[AR,AR,Cf]
def Kf(h:AE)(id:Int):Int:=
 if GX h id<0 then 7
 else if (h.AG.getD (GX h id).toNat wv).State≠2 then 13
 else if ANx (h.AG.getD (GX h id).toNat wv) h.Now=true then 14 else 0
theorem TX{h:AE}(a:Bk h)(id:Int):AHU h id=some (Kf h id):=by
 unfold AHU Kf
 grind[HA,AB,Yb,RG,ATd,Bn]
def Hu(h:AE)(q:B1):Int:=
 if inB q.Kind 1 7=false then 2
 else if KZ q=false then 3
 else if q.Kind=1 then Xc h q
 else if q.Kind=2 then if GX h q.Id<0 then 7 else 0
 else if q.Kind=3 then if (h.AI.length:Int)<=q.Aa then 4 else if inB q.BC 1 60=false then 5 else if KC h q.Aa<q.BC then 12 else 0
 else if q.Kind=4\/q.Kind=5 then Kf h q.Id
 else if q.Kind=6 then if 1000000<=h.Now then 15 else 0
 else if q.Kind=7 then if h.AS.C5<=q.Id then 16 else if h.A4.getD q.Id.toNat 0<0/\h.BA.length=0 then 17 else 0
 else 0
def verdict(h:AE)(q:B1):Int:=if DE h=true then Hu h q else 1
theorem HC{h:AE}(y:Bk h)(q:B1):SZ h q=some (verdict h q):=by
 unfold SZ verdict;rw[GK y,AB,BP,Bn];by_cases j:DE h=true
 .rw[AX j,AX j];unfold Hu;rw[GN,AB,BP,Bn];cases inB q.Kind 1 7
  .rfl
  .simp only[if_true,Dl,if_false];rw[ma,AB,BP,Bn];cases e:KZ q
   .rfl
   .simp only[if_true,Dl,if_false,Bn,beq_iff_eq,AR];by_cases g:q.Kind=1
    .rw[AX g,AX g,xa y,AB]
    .rw[AU g,AU g];by_cases E:q.Kind=2
     .rw[AX E,AX E,HA y,AB];simp only[decide_eq_true_eq];split<;>rfl
     .rw[AU E,AU E];by_cases B:q.Kind=3
      .rw[AX B,AX B];have Y:0<=q.Aa:=by
        unfold KZ at e;rw[AU g,AU (by omega),AX B]at e;simp only[AF,Ry,CP]at e;exact e.1.1
       simp only[ge_iff_le,decide_eq_true_eq,GN,AB,BG];by_cases a:(h.AI.length:Int)<=q.Aa
       .rw[AX a,AX a]
       .rw[AU a,AU a];cases inB q.BC 1 60
        .rfl
        .simp only[Dl,if_false];rw[Ur Y (by omega),AB];by_cases X:KC h q.Aa<q.BC<;>simp[X]<;>rfl
      .rw[AU B,AU B];unfold gv;by_cases c:q.Kind=4\/q.Kind=5
       .rw[AX c];rcases c with c|c
        .simp only[c,if_true,beq_self_eq_true,BJ,TX y,AB]
        .simp only[c,if_true,beq_self_eq_true,BJ,TX y,AB];rfl
       .have I:q.Kind≠4:=fun h=>c (.inl h)
        have J:q.Kind≠5:=fun h=>c (.inr h)
        rw[AU c,AU I];have O:(q.Kind==5)=false:=by simpa using J
        rw[O,BT]
        try simp only[Bn,beq_iff_eq,AR,ge_iff_le,decide_eq_true_eq]
        by_cases G:q.Kind=6
        .rw[AX G,AX G];split<;>rfl
        .rw[AU G,AU G];by_cases H:q.Kind=7
         .rw[AX H,AX H];have hR:=OO j;have hi:0<=q.Id:=by
           unfold KZ at e;rw[AU g,AX (by omega)]at e;simp only[AF,Ry,CP]at e;exact e.1.1
          by_cases a:h.AS.C5<=q.Id
          .rw[AX a,AX a]
          .rw[AU a,AU a];obtain⟨n,Z⟩:=Int.eq_ofNat_of_zero_le hi;have L:n<h.A4.length:=by have:=hR.R3;omega
           rw[Z,BH L,AB,Ah,BQ,AW L,KN];unfold gw Pt;simp only[Bn,AR,beq_iff_eq];by_cases Q:h.A4[n]<0<;>by_cases S:h.BA.length=0<;>simp[Q,S]
         .rw[AU H,AU H];rfl
 .rw[AU j,AU j]
def R8(l:List Int)(k:Int):List Int:=if l.any (fun y=>y==k)=true then l else l++[k]
theorem JJ{l:List Int}(a:l.length<=1048576)(k:Int):Rl l k=some (R8 l k):=by
 grind[lim,Rl,R8,B6,RW,AB,Bn]
def cbn(h:AE)(k:Int):Ae:=h.AI.getD k.toNat yR
def Cy(h:AE)(k:Int)(c:Ae):AE:=⟨h.AS,h.Now,h.Av,h.AG,h.AI.set k.toNat c,h.BA,h.A4⟩
theorem U0{h:AE}{k:Int}(a:0<=k)(c:k<h.AI.length):cbn h k∈h.AI:=by
 grind[cbn,List.getElem?_eq_getElem,List.getElem_mem]
theorem bO{h:AE}(e:Bk h){p:AQ}(a:0<=p.Aa)(c:p.Aa<h.AI.length) :
 aW h p=some (Cy h p.Aa ⟨(cbn h p.Aa).AY,put ltE (Ew h.AS p h.Now).1 (cbn h p.Aa).Row,(cbn h p.Aa).By⟩):=by
 have hlim:lim=268435456:=rfl;have j:=e.Dj;have g:=(e.Dq _ (U0 a c)).1;unfold aW;rw[YD (by omega),AB,Fj a c,AB,AB];show bd (ABZ (cbn h p.Aa).Row _) _=_;rw[Vb (by omega),AB,AB,AB];rfl
theorem YH{h:AE}(g:Bk h){p:AQ}(a:0<=p.Aa)(c:p.Aa<h.AI.length) :
 iJ h p=some (Cy h p.Aa ⟨(l8 (cbn h p.Aa).AY p.BC 1 (-1) 0 0).1,(cbn h p.Aa).Row,(UN (cbn h p.Aa).By ⟨p.Ci,p.Id⟩).1⟩):=by
 have e:=(g.Dq _ (U0 a c)).2;unfold iJ;rw[Fj a c,AB,AB,mW,AB];show bd (pK (cbn h p.Aa).By _) _=_;rw[Uq e,AB,AB,AB,B6 ⟨rfl,⟨by omega,by omega⟩,trivial⟩];rfl
def gone(h:AE)(p:AQ):AE:=
 let h':AE:=⟨h.AS,h.Now,h.Av,h.AG.eraseP (fun x=>x.Id==p.Id),h.AI,h.BA,h.A4⟩
 if 0<=p.Bl then Cy h' p.Bl ⟨(l8 (cbn h p.Bl).AY p.BC 0 0 0 (-1)).1,(cbn h p.Bl).Row,(cbn h p.Bl).By⟩ else h'
theorem NO{h:AE}(e:Bk h){p:AQ}(c:p.Bl<h.AI.length):UX h p=some (gone h p):=by
 unfold UX iL gone;rw[nQ e.CJ,AB,BL];by_cases a:0<=p.Bl
 .rw[AX a,AX a,Fj a c,AB,AB,bf,AB,AB,AB,AR];rfl
 .rw[AU a,AU a,AR]
def UZ(h:AE)(k n:Int):AE:=
 let h':=Cy h k ⟨(l8 (cbn h k).AY n 1 0 (-1) 0).1,(cbn h k).Row,(cbn h k).By⟩
 ⟨h'.AS,h'.Now,h'.Av,h'.AG,h'.AI,R8 h.BA k,h'.A4⟩
theorem YI{h:AE}(e:Bk h){k:Int}(a:0<=k)(c:k<h.AI.length)(n:Int):pM h k n=some (UZ h k n):=by
 unfold pM UZ;rw[Fj a c,AB,AB,mX,AB,AB,AB,JJ e.todo,AB];rfl
def Kr(a b:AQ):Bool:=decide (a.Id<b.Id)
def K3(l:List AQ)(p:AQ):List AQ:=
 if 0<=atF (fun x:AQ=>x.Id==p.Id) l 0 then l.set (atF (fun x:AQ=>x.Id==p.Id) l 0).toNat p else put Kr p l
theorem PN{l:List AQ}(c:l.length<=1048576)(p:AQ):UU l p=some (K3 l p):=by
 have hlim:lim=268435456:=rfl;unfold UU K3;rw[Va c,AB,B6 (by omega),BL,B8];split
 .grind[atF,AQ,JG,BH,AB]
 .rename_i e;have a:∀i:Nat,i<=l.length->SV l p i=some (l.take i++p::l.drop i):=by
   grind[SV,Cm,JW,JX,JY,JZ,I3,Ja,Jb,Ee,K1,Int.toNat_natCast,List.length_take,B6,List.length_cons,List.length_nil,List.length_append,List.length_drop]
  refine TM (lt:=Kr) some (by omega) ?_ ?_
  .intro L i h;unfold Wa SU;rw[B7 h,BJ,BH h,AB,AR,AR,a i (by omega)];rfl
  .intro L;unfold Wa SU;rw[Cl,BT,AR,BT,AR,a _ (Nat.le_refl _)];simp
def Ec(r:Ab)(p:AQ)(now:Int):AQ×Bool:=
 if D6 r p now=true/\p.State=2/\w64 (p.C0+1)<r.Cb then (⟨p.Id,p.Aa,p.Bl,p.BC,p.Cs,p.Since,p.Av,1,w64 (now+r.Rest),w64 (p.C0+1)⟩,true) else (wv,false)
theorem AC2{r:Ab}(e:r.AY.length<2 ^ 62)(p:AQ)(now:Int):AAu r p now=some (Ec r p now):=by
 unfold AAu Wv Ec;rw[NM e,AB];simp only[AR,BP,Bn,ge_iff_le,decide_eq_true_eq,bne_iff_ne,ne_eq];cases D6 r p now
 .rfl
 .by_cases a:p.State=2
  .by_cases c:r.Cb<=w64 (p.C0+1)
   .have:¬w64 (p.C0+1)<r.Cb:=by omega
    simp[a,c,this];rfl
   grind
  .simp[a];rfl
structure Vl(n:Nat)(c:Ae):Prop where
 row:c.Row.length<=n
 Uu:c.By.Am.length<=1048576
 pins:c.By.Am.flatten.length<=n
structure Sm(n:Nat)(h:AE):Prop where
 Dj:h.AS.AY.length<=1048576
 CJ:h.AG.length<=n
 EL:h.AI.length<=1048576
 Dq:∀c∈h.AI,Vl n c
 todo:h.BA.length<=n
 GV:h.A4.length<=1048576
theorem Vl.mono{n m:Nat}{c:Ae}(h:Vl n c)(a:n<=m):Vl m c:=⟨Aw h.row a,h.Uu,Aw h.pins a⟩
theorem Sm.mono{n m:Nat}{h:AE}(a:Sm n h)(e:n<=m):Sm m h:=
 ⟨a.Dj,Aw a.CJ e,a.EL,fun c g=>(a.Dq c g).mono e,Aw a.todo e,a.GV⟩
theorem Sm.fit{n:Nat}{h:AE}(a:Sm n h)(e:n<=1048576):Bk h:=
 ⟨a.Dj,Aw a.CJ e,a.EL,fun c g=>⟨Aw (a.Dq c g).row e,(a.Dq c g).Uu,Aw (a.Dq c g).pins e⟩,Aw a.todo e,a.GV⟩
theorem Sm.cab{n:Nat}{h:AE}(a:Sm n h){k:Int}{c:Ae}(j:Vl n c):Sm n (Cy h k c):=by
 refine⟨a.Dj,a.CJ,by simpa[Cy] using a.EL,?_,a.todo,a.GV⟩;intro q e;rcases E3 e with g|rfl
 .exact a.Dq _ g
 .exact j
theorem AUY(n:Nat):Vl n yR:=⟨by simp[yR],by simp[yR],by simp[yR]⟩
theorem Sm.cbn{n:Nat}{h:AE}(e:Sm n h)(k:Int):Vl n (cbn h k):=by
 unfold Lv.P.cbn;rw[BQ];cases a:h.AI[k.toNat]? with
 |none=>exact AUY n|some c=>exact e.Dq c (List.mem_of_getElem? a)
theorem VW{α:Type}(lt:α->α->Bool)(a:α):∀l:List α,(put lt a l).length=l.length+1| []=>rfl|b::l=>by unfold put;split<;>simp[VW lt a l]
theorem U7{α:Type}(p:α->Bool)(l:List α):(l.eraseP p).length<=l.length:=(List.eraseP_sublist).length_le
theorem AJn{n:Nat}{c:Ae}(h:Vl n c)(p:BO):(UN c.By p).1.Am.length<=1048576/\(UN c.By p).1.Am.flatten.length<=n:=by
 unfold UN;split
 .refine⟨by simpa using h.Uu,?_⟩;rcases AV (p.At.tmod 9).toNat c.By.Am.length with a|a
  .have e:c.By.Am.getD (p.At.tmod 9).toNat []=c.By.Am[(p.At.tmod 9).toNat]:=by rw[BQ,AW a];rfl
   have g:=jw a ((c.By.Am[(p.At.tmod 9).toNat]).eraseP (isP p));have j:=U7 (isP p) (c.By.Am[(p.At.tmod 9).toNat]);have q:=h.pins;dsimp only;rw[e];omega
  .dsimp only;rw[List.set_eq_of_length_le a];exact h.pins
 .exact⟨h.Uu,h.pins⟩
theorem QV(l:List Int)(k:Int):(R8 l k).length<=l.length+1:=by unfold R8;split<;>simp
theorem AR5(l:List AQ)(p:AQ):(K3 l p).length<=l.length+1:=by
 grind[K3,VW]
theorem ATS{n:Nat}{h:AE}(g:Sm n h){c:Ae}{e:Ai}{k:Int}{l:BE}(a:Vl n c):Sm (n+1) (Cy h k ⟨l,put ltE e c.Row,c.By⟩):=by
 refine(g.mono (C2 n)).cab ⟨?_,a.Uu,Aw a.pins (C2 n)⟩;rw[VW];have:=a.row;omega
theorem cS{n:Nat}{h:AE}(a:Sm n h)(p:AQ):Sm n (gone h p):=by
 have e:Sm n ⟨h.AS,h.Now,h.Av,h.AG.eraseP (fun x=>x.Id==p.Id),h.AI,h.BA,h.A4⟩:=
  ⟨a.Dj,Aw (U7 _ _) a.CJ,a.EL,a.Dq,a.todo,a.GV⟩
 unfold gone;dsimp only;split
 .have c:=a.cbn p.Bl;exact e.cab ⟨c.row,c.Uu,c.pins⟩
 .exact e
theorem ABl{n:Nat}{h:AE}(g:Sm n h)(k m:Int):Sm (n+1) (UZ h k m):=by
 have e:=g.cbn k;have a:=(g.cab (k:=k) (c:=⟨(l8 (Lv.P.cbn h k).AY m 1 0 (-1) 0).1,(Lv.P.cbn h k).Row,(Lv.P.cbn h k).By⟩) ⟨e.row,e.Uu,e.pins⟩).mono (C2 n);unfold UZ;exact⟨a.Dj,a.CJ,a.EL,a.Dq,Aw (QV _ _) (by have:=g.todo;omega),a.GV⟩
def dropped(h:AE)(p:AQ):AE:=Cy h p.Aa ⟨(l8 (cbn h p.Aa).AY p.BC 1 (-1) 0 0).1,(cbn h p.Aa).Row,(UN (cbn h p.Aa).By ⟨p.Ci,p.Id⟩).1⟩
theorem Ny{n:Nat}{h:AE}(c:Sm n h)(p:AQ):Sm n (dropped h p):=by
 have a:=c.cbn p.Aa;have e:=AJn a ⟨p.Ci,p.Id⟩;exact c.cab ⟨a.row,e.1,e.2⟩
def OM(h:AE)(l:List AQ):AE:=⟨h.AS,h.Now,h.Av,l,h.AI,h.BA,h.A4⟩
def Gs(h:AE)(p:AQ):AE:=Cy h p.Aa ⟨(cbn h p.Aa).AY,put ltE (Ew h.AS p h.Now).1 (cbn h p.Aa).Row,(cbn h p.Aa).By⟩
theorem UI{n:Nat}{h:AE}(c:Sm n h)(p:AQ):Sm (n+1) (OM h (K3 h.AG p)):=by
 have a:=c.mono (C2 n);exact⟨a.Dj,Aw (AR5 _ _) (by have:=c.CJ;omega),a.EL,a.Dq,a.todo,a.GV⟩
def Ih(h:AE)(p:AQ):AE:=
 if (Ec h.AS p h.Now).2=true then Gs (OM (dropped h p) (K3 h.AG (Ec h.AS p h.Now).1)) (Ec h.AS p h.Now).1 else gone (dropped h p) p
theorem ae{r:Ab}{p:AQ}{now:Int}(h:(Ec r p now).2=true):(Ec r p now).1.Aa=p.Aa:=by
 grind[Ec]
theorem AN4{n:Nat}{h:AE}(a:Sm n h)(p:AQ):Sm (n+2) (Ih h p):=by
 unfold Ih;split
 .exact ATS (UI (Ny a p) _) ((UI (Ny a p) _).cbn _)
 .exact(cS (Ny a p) p).mono (by omega)
theorem Ut{n:Nat}(G:n+2<=1048576){h:AE}(c:Sm n h){p:AQ}(e:0<=p.Aa)(g:p.Aa<h.AI.length)(y:p.Bl<h.AI.length):pO h p=some (Ih h p):=by
 unfold pO;rw[YH (c.fit (by omega)) e g,AB];have q:=Ny c p;have H:=c.Dj;show bd (AAu h.AS p h.Now) _=_;rw[AC2 (by omega),AB,BP,Bn];unfold Ih;have a:(dropped h p).AI.length=h.AI.length:=by simp[dropped,Cy]
 split
 .rename_i B;have j:=ae B;rw[PN (by have:=c.CJ;show h.AG.length<=_;omega),AB];have E:=UI q (Ec h.AS p h.Now).1;show bd (aW (OM (dropped h p) (K3 h.AG (Ec h.AS p h.Now).1)) _) _=_;rw[bO (h:=OM (dropped h p) (K3 h.AG (Ec h.AS p h.Now).1)) (E.fit (by omega)) (by rw[j];exact e) (by rw[j];show p.Aa<((dropped h p).AI.length:Int);rw[a];exact g),AB];rfl
 .show bd (UX (dropped h p) p) _=_;rw[NO (q.fit (by omega)) (by rw[a];exact y),AB]
def FA(h:AE)(l:List Int):AE:=⟨h.AS,h.Now,h.Av,h.AG,h.AI,l,h.A4⟩
def Hv(h:AE)(id cabin frm size tier:Int):AQ:=⟨id,cabin,frm,size,tier,h.Now,h.Av,1,0,0⟩
def KE(h:AE)(k n:Int):AE:=Cy h k ⟨(l8 (cbn h k).AY n 0 0 0 1).1,(cbn h k).Row,(cbn h k).By⟩
def Mf(h:AE)(id cabin frm size tier:Int):AE:=
 let p:=Hv h id cabin frm size tier
 let x:=Gs ⟨h.AS,h.Now,w64 (h.Av+1),K3 h.AG p,h.AI,h.BA,h.A4⟩ p
 let y:=if 0<=frm then KE x frm size else x
 FA y (R8 y.BA cabin)
def kr(h:AE)(id cabin frm size tier:Int):AE×Int:=
 if verdict h ⟨1,id,cabin,frm,size,tier⟩≠0 then (h,verdict h ⟨1,id,cabin,frm,size,tier⟩) else (Mf h id cabin frm size tier,0)
theorem AKa{h:AE}(e:Bk h){p:AQ}(a:0<=p.Aa)(c:p.Aa<h.AI.length):aW h p=some (Gs h p):=bO e a c
theorem YT{h:AE}{id cabin frm size tier:Int}(a:verdict h ⟨1,id,cabin,frm,size,tier⟩=0):DE h=true/\0<=cabin/\cabin<h.AI.length/\frm<h.AI.length:=by
 grind[verdict,Hu,KZ,Ry,CP,Xc]
theorem AMT{n:Nat}(Q:n+3<=1048576){h:AE}(G:Sm n h)(id cabin frm size tier:Int):AHi h id cabin frm size tier=some (kr h id cabin frm size tier)/\Sm (n+3) (kr h id cabin frm size tier).1:=by
 have E:=G.fit (by omega);unfold AHi iH kr;rw[Hl E,AB,HC E,AB];simp only[Bn,bne_iff_ne,ne_eq,BL,ge_iff_le,AR];by_cases y:verdict h ⟨1,id,cabin,frm,size,tier⟩=0
 .obtain⟨O,I,J,L⟩:=YT y;rw[AU (not_not_intro y),AU (not_not_intro y),PN E.CJ,AB];have g:Sm (n+1) (⟨h.AS,h.Now,w64 (h.Av+1),K3 h.AG (Hv h id cabin frm size tier),h.AI,h.BA,h.A4⟩:AE):=by
   have j:=UI G (Hv h id cabin frm size tier);exact⟨j.Dj,j.CJ,j.EL,j.Dq,j.todo,j.GV⟩
  have e:Sm (n+2) (Gs ⟨h.AS,h.Now,w64 (h.Av+1),K3 h.AG (Hv h id cabin frm size tier),h.AI,h.BA,h.A4⟩ (Hv h id cabin frm size tier)):=ATS g (g.cbn _);show bd (aW ⟨h.AS,h.Now,w64 (h.Av+1),K3 h.AG (Hv h id cabin frm size tier),h.AI,h.BA,h.A4⟩ (Hv h id cabin frm size tier)) _=_/\_;rw[AKa (g.fit (by omega)) (show 0<=(Hv h id cabin frm size tier).Aa from I) (show (Hv h id cabin frm size tier).Aa<_ from J),AB];simp only[decide_eq_true_eq];unfold Mf;dsimp only;generalize hX:Gs ⟨h.AS,h.Now,w64 (h.Av+1),K3 h.AG (Hv h id cabin frm size tier),h.AI,h.BA,h.A4⟩ (Hv h id cabin frm size tier)=X at e ⊢;have q:X.AI.length=h.AI.length:=by rw[<-hX];simp[Gs,Cy]
  by_cases c:0<=frm
  .rw[AX c,AX c,Fj c (by rw[q];exact L),AB,AB,nR,AB,AB,AB,JJ (by have:=e.todo;show X.BA.length<=_;omega),AB];have B:=e.cbn frm;have H:Sm (n+2) (KE X frm size):=e.cab ⟨B.row,B.Uu,B.pins⟩;have a:=H.mono (C2 (n+2));exact⟨rfl,a.Dj,a.CJ,a.EL,a.Dq,Aw (QV _ _) (by have:=H.todo;omega),a.GV⟩
  .rw[AU c,AU c];show bd (Rl X.BA cabin) _=_/\_;rw[JJ (by have:=e.todo;omega),AB];have a:=e.mono (C2 (n+2));exact⟨rfl,a.Dj,a.CJ,a.EL,a.Dq,Aw (QV _ _) (by have:=e.todo;omega),a.GV⟩
 .rw[AX y,AX y];exact⟨rfl,G.mono (by omega)⟩
def par(h:AE)(id:Int):AQ:=h.AG.getD (GX h id).toNat wv
theorem mF{h:AE}(e:DE h=true){id:Int}(c:0<=GX h id):0<=(par h id).Aa/\(par h id).Aa<h.AI.length /\ -1<=(par h id).Bl/\(par h id).Bl<h.AI.length/\(par h id).Id=id:=by
 have hR:=OO e;obtain⟨y,B⟩:=RG c;have hi:(GX h id).toNat<h.AG.length:=by omega
 have a:=hR.par _ hi;have j:par h id=h.AG[(GX h id).toNat]:=by unfold par;rw[BQ,AW hi];rfl
 rw[<-j]at a;unfold D6 at a;have E:=hR.Dj;simp only[AF,CP]at a;obtain⟨_,_,_,g,q,_⟩:=a;rw[A6 (by omega) (by omega)]at g q;have:=hR.EL
 grind
def j6(h:AE)(k n:Int):AE×Int:=
 if verdict h ⟨3,0,k,0,n,0⟩≠0 then (h,verdict h ⟨3,0,k,0,n,0⟩) else (UZ h k n,0)
theorem YS{h:AE}{k n:Int}(a:verdict h ⟨3,0,k,0,n,0⟩=0):DE h=true/\0<=k/\k<h.AI.length:=by
 grind[verdict,Hu,KZ,Ry,CP]
theorem mR{m:Nat}(y:m+1<=1048576){h:AE}(e:Sm m h)(k n:Int):AHo h k n=some (j6 h k n)/\Sm (m+1) (j6 h k n).1:=by
 have c:=e.fit (by omega);unfold AHo j6;rw[Hl c,AB,HC c,AB];simp only[Bn,bne_iff_ne,ne_eq];by_cases a:verdict h ⟨3,0,k,0,n,0⟩=0
 .obtain⟨q,g,j⟩:=YS a
  grind[YI,AB,ABl]
 .rw[AX a,AX a];exact⟨rfl,e.mono (by omega)⟩
theorem Rr{h:AE}{id:Int}(a:verdict h ⟨5,id,0,0,0,0⟩=0):DE h=true/\0<=GX h id:=by
 grind[verdict,Hu,Kf,GX]
def ANu(h:AE)(id:Int):AE:=FA (Ih h (par h id)) (R8 (Ih h (par h id)).BA (par h id).Aa)
def Nx(h:AE)(id:Int):AE×Int:=
 if verdict h ⟨5,id,0,0,0,0⟩≠0 then (h,verdict h ⟨5,id,0,0,0,0⟩) else (ANu h id,0)
theorem xP{n:Nat}(I:n+3<=1048576){h:AE}(g:Sm n h)(id:Int):AHr h id=some (Nx h id)/\Sm (n+3) (Nx h id).1:=by
 have j:=g.fit (by omega);unfold AHr Nx;rw[Hl j,AB,HC j,AB];simp only[Bn,bne_iff_ne,ne_eq];by_cases e:verdict h ⟨5,id,0,0,0,0⟩=0
 .obtain⟨E,p0⟩:=Rr e;obtain⟨q,y,H,B,G⟩:=mF E p0;rw[AU (not_not_intro e),AU (not_not_intro e),HA j];simp only[AB,Yb p0 (RG p0).1,Cm,JW,JX,JY,JZ,I3,Ja,Jb,Ee];have a:=AN4 g (par h id);show bd (pO h (par h id)) _=_/\_;rw[Ut (by omega) g q y B,AB,JJ (by have:=a.todo;omega),AB];have c:=a.mono (C2 (n+2));exact⟨rfl,c.Dj,c.CJ,c.EL,c.Dq,Aw (QV _ _) (by have:=a.todo;omega),c.GV⟩
 .rw[AX e,AX e];exact⟨rfl,g.mono (by omega)⟩
theorem Tb{h:AE}{id:Int}(a:verdict h ⟨2,id,0,0,0,0⟩=0):DE h=true/\0<=GX h id:=by
 grind[verdict,Hu]
def mq(h:AE)(k id:Int):AE:=Cy h k ⟨(cbn h k).AY,(cbn h k).Row.eraseP (fun x=>x.Id==id),(cbn h k).By⟩
def cancelled(h:AE)(id:Int):AE:=
 let p:=par h id
 if p.State=2 then gone (FA (dropped h p) (R8 (dropped h p).BA p.Aa)) p else gone (mq h p.Aa id) p
def Qh(h:AE)(id:Int):AE×Int:=
 if verdict h ⟨2,id,0,0,0,0⟩≠0 then (h,verdict h ⟨2,id,0,0,0,0⟩) else (cancelled h id,0)
theorem AFD{h:AE}(e:Bk h){p:AQ}(a:0<=p.Aa)(c:p.Aa<h.AI.length):iJ h p=some (dropped h p):=YH e a c
theorem AC0{n:Nat}(O:n+1<=1048576){h:AE}(c:Sm n h)(id:Int):AHm h id=some (Qh h id)/\Sm (n+1) (Qh h id).1:=by
 have j:=c.fit (by omega);unfold AHm Qh;rw[Hl j,AB,HC j,AB];simp only[Bn,bne_iff_ne,ne_eq];by_cases e:verdict h ⟨2,id,0,0,0,0⟩=0
 .obtain⟨J,p0⟩:=Tb e;obtain⟨y,B,Q,G,L⟩:=mF J p0;rw[AU (not_not_intro e),AU (not_not_intro e),HA j];simp only[AB,Yb p0 (RG p0).1,Cm,JW,JX,JY,JZ,I3,Ja,Jb,Ee,beq_iff_eq,AR];show (if (par h id).State=2 then bd (iJ h (par h id)) _ else bd (at? h.AI (par h id).Aa) _)=_/\_;unfold cancelled;dsimp only;by_cases q:(par h id).State=2
  .rw[AX q,AX q,AFD j y B,AB];have E:=Ny c (par h id);rw[JJ (by have:=E.todo;omega),AB];have a:=E.mono (C2 n);have H:Sm (n+1) (FA (dropped h (par h id)) (R8 (dropped h (par h id)).BA (par h id).Aa)):=
    ⟨a.Dj,a.CJ,a.EL,a.Dq,Aw (QV _ _) (by have:=E.todo;omega),a.GV⟩
   unfold Wu;show bd (UX (FA (dropped h (par h id)) (R8 (dropped h (par h id)).BA (par h id).Aa)) (par h id)) _=_/\_;rw[NO (H.fit O) (by (have:(FA (dropped h (par h id)) (R8 (dropped h (par h id)).BA (par h id).Aa)).AI.length=h.AI.length:=by simp[FA,dropped,Cy]);rw[this];exact G),AB];exact⟨rfl,cS H _⟩
  .rw[AU q,AU q];simp only[show at? h.AI (par h id).Aa=some (cbn h (par h id).Aa) from Fj y B,show at? h.AI (h.AG.getD (GX h id).toNat wv).Aa=some (cbn h (par h id).Aa) from Fj y B,AB];have g:=c.cbn (par h id).Aa;show bd (iK (cbn h (par h id).Aa).Row id) _=_/\_;rw[Uo (by have:=g.row;omega),AB];have I:Sm n (mq h (par h id).Aa id):=c.cab ⟨Aw (U7 _ _) g.row,g.Uu,g.pins⟩;unfold Wu;show bd (UX (mq h (par h id).Aa id) (par h id)) _=_/\_;rw[NO (I.fit (by omega)) (by (have:(mq h (par h id).Aa id).AI.length=h.AI.length:=by simp[mq,Cy]);rw[this];exact G),AB];exact⟨rfl,(cS I _).mono (C2 n)⟩
 .rw[AX e,AX e];exact⟨rfl,c.mono (by omega)⟩
theorem Ta{h:AE}{id:Int}(a:verdict h ⟨4,id,0,0,0,0⟩=0):DE h=true/\0<=GX h id:=by
 grind[verdict,Hu,Kf,GX]
def YC(h:AE)(p:AQ):AE:=Cy h p.Aa ⟨(l8 (cbn h p.Aa).AY p.BC 0 (-1) 1 0).1,(cbn h p.Aa).Row,(UN (cbn h p.Aa).By ⟨p.Ci,p.Id⟩).1⟩
theorem AVj{n:Nat}{h:AE}(c:Sm n h)(p:AQ):Sm n (YC h p):=by
 have a:=c.cbn p.Aa;have e:=AJn a ⟨p.Ci,p.Id⟩;exact c.cab ⟨a.row,e.1,e.2⟩
def accepted(h:AE)(id:Int):AE:=
 let p:=par h id
 if 0<=p.Bl then UZ (gone (YC h p) p) p.Bl p.BC else gone (YC h p) p
def Qb(h:AE)(id:Int):AE×Int:=
 if verdict h ⟨4,id,0,0,0,0⟩≠0 then (h,verdict h ⟨4,id,0,0,0,0⟩) else (accepted h id,0)
theorem AQ0(h:AE)(p:AQ):(gone h p).AI.length=h.AI.length:=by grind[gone,Cy]
theorem ACy{n:Nat}(O:n+1<=1048576){h:AE}(j:Sm n h)(id:Int):AHq h id=some (Qb h id)/\Sm (n+1) (Qb h id).1:=by
 have e:=j.fit (by omega);unfold AHq Qb;rw[Hl e,AB,HC e,AB];simp only[Bn,bne_iff_ne,ne_eq];by_cases c:verdict h ⟨4,id,0,0,0,0⟩=0
 .obtain⟨H,p0⟩:=Ta c;obtain⟨q,y,L,B,J⟩:=mF H p0;rw[AU (not_not_intro c),AU (not_not_intro c),HA e];have I:=(e.Dq _ (U0 q y)).2;have G:=AVj j (par h id);have E:(YC h (par h id)).AI.length=h.AI.length:=by simp[YC,Cy]
  simp only[AB,Yb p0 (RG p0).1,show at? h.AI (h.AG.getD (GX h id).toNat wv).Aa=some (cbn h (par h id).Aa) from Fj q y,Cm,JW,JX,JY,JZ,I3,Ja,Jb,Ee,mZ,Uq I,AR,BL,ge_iff_le,decide_eq_true_eq];rw[B6 ⟨rfl,⟨by omega,by omega⟩,trivial⟩];show bd (UX (YC h (par h id)) (par h id)) _=_/\_;rw[NO (G.fit (by omega)) (by rw[E];exact B),AB];have g:=cS G (par h id);unfold accepted iM;dsimp only;by_cases a:0<=(par h id).Bl
  .rw[AX a];show (if 0<=(par h id).Bl then bd (pM (gone (YC h (par h id)) (par h id)) (par h id).Bl (par h id).BC) _ else _)=_/\_;rw[AX a,YI (g.fit (by omega)) a (by rw[AQ0,E];exact B),AB];exact⟨rfl,ABl g _ _⟩
  .rw[AU a];show (if 0<=(par h id).Bl then _ else _)=_/\_;rw[AU a];exact⟨rfl,g.mono (C2 n)⟩
 .rw[AX c,AX c];exact⟨rfl,j.mono (by omega)⟩
def QU(h:AE)(i:Nat):AE:=
 let x:=Cy h i ⟨(cbn h i).AY,Dw h.AS h.AG i h.Now,(cbn h i).By⟩
 if 0<DO h.AG i then FA x (R8 h.BA i) else x
def Ow:Nat->Nat->AE->AE|0,_,h=>h|k+1,i,h=>Ow k (i+1) (QU h i)
theorem rV(h:AE)(i:Nat):(QU h i).AI.length=h.AI.length:=by grind[QU,Cy,FA]
theorem ml{n:Nat}{h:AE}(c:Sm n h)(i:Nat):Sm (n+1) (QU h i):=by
 have e:=c.cbn (i:Int);have g:(Dw h.AS h.AG (i:Int) h.Now).length<=n:=by
  unfold Dw;rw[Ho];exact Aw (List.length_filterMap_le _ _) c.CJ
 have j:Sm n (Cy h i ⟨(cbn h i).AY,Dw h.AS h.AG i h.Now,(cbn h i).By⟩):=c.cab ⟨g,e.Uu,e.pins⟩;have a:=j.mono (C2 n);unfold QU;dsimp only;split
 .exact⟨a.Dj,a.CJ,a.EL,a.Dq,Aw (QV _ _) (by have:=c.todo;omega),a.GV⟩
 .exact a
theorem ATr{n:Nat}{h:AE}(B:Sm n h)(H:n+h.AI.length<=1048576):BB Ww big (0,h)=some (Ow h.AI.length 0 h,0):=by
 generalize a:h.AI.length=len at *;refine(C9 (F:=Ww) (n:=len) (fun i (v:AE)=>((i:Int),v)) (fun i v=>Sm (n+i) v/\v.AI.length=len) (fun i v=>some (Ow (len-i) i v,0)) (by omega) ?_ (v:=h) ⟨B,a⟩).trans (by rw[Nat.sub_zero]);intro L i v ⟨y,c⟩ hi G;have j:=y.fit (by omega);unfold Ww;dsimp only;rw[c];rcases AV i len with g|g
 .have I:=j.Dj;have E:=j.CJ;rw[B7 g,BJ,NN (by omega) E,AB,Fj (by omega) (by omega),AB,AB,NL (by omega),AB];have e:Ow (len-i) i v=Ow (len-(i+1)) (i+1) (QU v i):=by rw[show len-i=(len-(i+1))+1 by omega];rfl
  rw[e];have q:=G (QU v i) ⟨by have:=ml y i;rw[CT]at this;exact this,by rw[rV];exact c⟩ g;rw[<-q];unfold iN QU;simp only[BL,gt_iff_lt,AR,Bg g (show len<2 ^ 63 by omega),Ah,JJ j.todo,AB];split<;>rfl
 .have:i=len:=by omega
  subst this;rw[Cl,BT,AR,Nat.sub_self];rfl
def AXk(h:AE):AE:=Ow h.AI.length 0 ⟨h.AS,w64 (h.Now+1),h.Av,h.AG,h.AI,h.BA,h.A4⟩
def mn(h:AE):AE×Int:=
 if verdict h ⟨6,0,0,0,0,0⟩≠0 then (h,verdict h ⟨6,0,0,0,0,0⟩) else (AXk h,0)
theorem ADA:∀(k i:Nat) {n:Nat} {h:AE},Sm n h->Sm (n+k) (Ow k i h)|0,_,_,_,a=>a|k+1,i,n,h,a=>by have:=ADA k (i+1) (ml a i);rw[CT,Nat.add_comm 1 k]at this;exact this
theorem AMX{n:Nat}{h:AE}(a:Sm n h)(j:n+h.AI.length<=1048576):AHs h=some (mn h)/\Sm (n+h.AI.length) (mn h).1:=by
 have g:=a.fit (by omega);unfold AHs mn;rw[Hl g,AB,HC g,AB];simp only[Bn,bne_iff_ne,ne_eq];have e:Sm n ⟨h.AS,w64 (h.Now+1),h.Av,h.AG,h.AI,h.BA,h.A4⟩:=⟨a.Dj,a.CJ,a.EL,a.Dq,a.todo,a.GV⟩;by_cases c:verdict h ⟨6,0,0,0,0,0⟩=0
 .rw[AU (not_not_intro c),AU (not_not_intro c),ATr e j];exact⟨rfl,ADA _ _ e⟩
 .rw[AX c,AX c];exact⟨rfl,a.mono (by omega)⟩
def jo(w:Aq)(now:Int):List Int:=(Ek w).filterMap fun p=>if p.At<=now then some p.Id else none
theorem xV{w:Aq}(a:Cz w)(now:Int):AAv w now=some ((Ek w).filter fun p=>decide (p.At<=now)):=by
 have hlim:lim=268435456:=rfl;have c:=IF a;unfold AAv;rw[MU a,AB,collect (l:=Ek w) (fun p=>if p.At<=now then some p else none) some c ?_ ?_]
 .congr 1;generalize Ek w=l
  induction l with
  |nil=>rfl|cons p l e=>
   grind
 .grind[iQ,iP,BH,AB,BL,AR,B6]
 grind[iQ,AAw,BT,AR]
theorem AC4{h:AE}(g:Bk h){k:Int}(a:0<=k)(c:k<h.AI.length):AHt h k=some (jo (cbn h k).By h.Now):=by
 have hlim:lim=268435456:=rfl;have e:=(g.Dq _ (U0 a c)).2;have j:=IF e;unfold AHt;rw[Fj a c,AB];show bd (AAv (cbn h k).By h.Now) _=_;rw[xV e,AB];generalize hD:(Ek (cbn h k).By).filter (fun p=>decide (p.At<=h.Now))=D;have hDl:D.length<=1048576:=by rw[<-hD];exact Aw (List.length_filter_le _ _) j
 rw[collect (l:=D) (fun p=>some p.Id) some hDl ?_ ?_]
 .unfold jo;rw[<-hD];congr 1;generalize Ek (cbn h k).By=l
  induction l with
  |nil=>rfl|cons p l q=>
   grind
 .grind[iR,BJ,BH,AB,B6]
 grind[iR,AAx,BT,AR]
section
variable{α:Type}{lt:α->α->Bool}
theorem Xo(a:α):∀l:List α,(put lt a l).Perm (a::l)
 | []=>.refl _|z::l=>by
  unfold put;split
  .exact((Xo a l).cons z).trans (.swap a z l)
  .exact .refl _
theorem Nb:∀l:List α,(DV lt l).Perm l| []=>.refl _|a::l=>(Xo a _).trans ((Nb l).cons a)
def Rf(lt:α->α->Bool)(l:List α):Prop:=l.Pairwise fun a b=>lt a b=true\/lt b a=true
theorem Rf.perm{a c:List α}(h:Rf lt a)(e:a.Perm c):Rf lt c:=(e.pairwise_iff (fun h=>h.symm)).1 h
theorem MT(h:Swo lt){l:List α}(q:Rf lt l):(DV lt l).Pairwise fun a b=>lt a b=true:=by
 have c:(DV lt l).Pairwise fun a b=>lt b a=false:=Ty h l
 have e:Rf lt (DV lt l):=q.perm (Nb (lt:=lt) l).symm;exact(c.and e).imp fun {a b} ⟨g,j⟩=>j.resolve_right (by rw[g];simp)
theorem rP(h:Swo lt):∀{g j:List α},(g.Pairwise fun a b=>lt a b=true)->(j.Pairwise fun a b=>lt a b=true)->g.Perm j->g=j
 | [],j,_,_,c=>c.nil_eq|a::g,[],_,_,c=>by cases c.eq_nil
 |a::g,b::j,q,y,c=>by
  rw[BW]at q y;by_cases e:a=b
  .subst e;rw[rP h q.2 y.2 c.cons_inv]
  .have E:a∈j:=(Ag.1 (c.subset (Be ..))).resolve_left e;have B:b∈g:=(Ag.1 (c.symm.subset (Be ..))).resolve_left (Ne.symm e);have:=h.rz _ _ (q.1 b B)
   grind
theorem AVk(h:Swo lt){a c:List α}(e:Rf lt a)(g:a.Perm c):DV lt a=DV lt c:=
 rP h (MT h e) (MT h (e.perm g)) ((Nb a).trans (g.trans (Nb c).symm))
end
structure Uni(ps:List AQ):Prop where
 id:ps.Pairwise fun p q=>p.Id≠q.Id
 turn:ps.Pairwise fun p q=>p.Av≠q.Av
theorem Uni.perm{a b:List AQ}(h:Uni a)(c:a.Perm b):Uni b:=⟨(c.pairwise_iff (fun h=>Ne.symm h)).1 h.id,(c.pairwise_iff (fun h=>Ne.symm h)).1 h.turn⟩
theorem Uni.tail{p:AQ}{b:List AQ}(h:Uni (p::b)):Uni b:=⟨(BW.1 h.id).2,(BW.1 h.turn).2⟩
theorem Qn{r:Ab}{now:Int}{p:AQ}(a:D6 r p now=true)(c:p.State=1):Ew r p now=(⟨Ii r p now,p.Av,p.Id,p.BC⟩,true):=by
 grind[Ew]
theorem aa{r:Ab}{now:Int}{p:AQ}(h:¬(D6 r p now=true/\p.State=1)):Ew r p now=(⟨0,0,0,0⟩,false):=by
 unfold Ew;rw[AU h]
theorem KU{r:Ab}{c now:Int}{p:AQ}{e:Ai}(h:K4 r c now p=some e):e=⟨Ii r p now,p.Av,p.Id,p.BC⟩/\D6 r p now=true/\p.State=1/\p.Aa=c:=by
 grind[K4,Qn,aa]
theorem AKt{r:Ab}{now:Int}{p:AQ}(a:D6 r p now=true)(e:p.State=1)(c:Int):K4 r c now p=if p.Aa=c then some ⟨Ii r p now,p.Av,p.Id,p.BC⟩ else none:=by
 unfold K4;rw[Qn a e];simp
theorem AR9{r:Ab}{c now:Int}{p:AQ}(a:p.State≠1):K4 r c now p=none:=by
 grind[K4,aa]
theorem T7{c:Int}{p:AQ}{e:BO}(h:MO c p=some e):e=⟨p.Ci,p.Id⟩/\p.State=2/\p.Aa=c:=by
 grind[MO]
theorem AMw{ps:List AQ}(h:Uni ps)(r:Ab)(c now:Int):Rf ltE (ps.filterMap (K4 r c now)):=by
 unfold Rf;rw[FP];refine h.turn.imp ?_;intro p q j a e b g;obtain⟨rfl,_⟩:=KU e;obtain⟨rfl,_⟩:=KU g
 grind[T0]
theorem ACV{ps qs:List AQ}(h:Uni ps)(a:ps.Perm qs)(r:Ab)(c now:Int):Dw r ps c now=Dw r qs c now:=AVk cW (AMw h r c now) (a.filterMap _)
theorem VU{ps qs:List AQ}(a:ps.Perm qs)(c:Int):F9 ps c=F9 qs c:=kq E7 cX (a.filterMap _)
theorem TN(r:Ab)(p:AQ)(ps:List AQ)(c now:Int):Dw r (p::ps) c now=match K4 r c now p with|some e=>put ltE e (Dw r ps c now)|none=>Dw r ps c now:=by
 unfold Dw;rw[Iv];cases K4 r c now p<;>rfl
theorem VT(p:AQ)(ps:List AQ)(c:Int):F9 (p::ps) c=match MO c p with|some e=>put ltP e (F9 ps c)|none=>F9 ps c:=by
 unfold F9;rw[Iv];cases MO c p<;>rfl
theorem N1(f:AQ->Int)(g:Int->AQ->Int)(a:∀n p,g n p=n+f p):∀(l:List AQ) (n:Int),l.foldl g n=n+l.foldl g 0| [],n=>by simp|p::l,n=>by rw[Bw,Bw,N1 f g a l,N1 f g a l (g 0 p),a,a];omega
def XQ(c:Int)(p:AQ):Int:=if ((p.State==2)&&((p.Aa==c)&&inB p.BC 1 6))=true then p.BC else 0
def rW(c:Int)(p:AQ):Int:=if ((p.Bl==c)&&inB p.BC 1 6)=true then p.BC else 0
def AUc(c:Int)(p:AQ):Int:=if (p.Aa==c)=true then 1 else 0
theorem AI4(c n:Int)(p:AQ):Ub c n p=n+XQ c p:=by grind[Ub,XQ]
theorem AJi(c n:Int)(p:AQ):Uv c n p=n+rW c p:=by grind[Uv,rW]
theorem yY(c n:Int)(p:AQ):MY c n p=n+AUc c p:=by grind[MY,AUc]
theorem N4(p:AQ)(ps:List AQ)(c:Int):I5 (p::ps) c=XQ c p+I5 ps c:=by
 unfold I5;rw[Bw,N1 _ _ (AI4 c),AI4];omega
theorem Vg(p:AQ)(ps:List AQ)(c:Int):JU (p::ps) c=rW c p+JU ps c:=by
 unfold JU;rw[Bw,N1 _ _ (AJi c),AJi];omega
theorem aH(p:AQ)(ps:List AQ)(c:Int):DO (p::ps) c=AUc c p+DO ps c:=by
 unfold DO;rw[Bw,N1 _ _ (yY c),yY];omega
theorem mg{F:List AQ->Int}{f:AQ->Int}(hF:∀p l,F (p::l)=f p+F l){a b:List AQ}(g:a.Perm b):F a=F b:=by
 induction g with
 |nil=>rfl|cons x _ h=>rw[hF,hF,h]|swap x y l=>rw[hF,hF,hF,hF];omega|trans _ _ c e=>exact c.trans e
theorem AE5{a b:List AQ}(e:a.Perm b)(c:Int):I5 a c=I5 b c:=mg (F:=fun l=>I5 l c) (fun p l=>N4 p l c) e
theorem AGD{a b:List AQ}(e:a.Perm b)(c:Int):JU a c=JU b c:=mg (F:=fun l=>JU l c) (fun p l=>Vg p l c) e
theorem SE{a b:List AQ}(e:a.Perm b)(c:Int):DO a c=DO b c:=mg (F:=fun l=>DO l c) (fun p l=>aH p l c) e
theorem AGA{F:List AQ->Int}{f:AQ->Int}(c:F []=0)(hF:∀p l,F (p::l)=f p+F l)(a:∀p,0<=f p):∀l,0<=F l| []=>by omega|p::l=>by have:=a p;have:=AGA c hF a l;rw[hF];omega
theorem ARI(c:Int)(p:AQ):0<=XQ c p:=by
 grind[XQ,CP]
theorem ATs(c:Int)(p:AQ):0<=rW c p:=by
 grind[rW,CP]
theorem ABt(l:List AQ)(c:Int):0<=I5 l c:=AGA (F:=fun l=>I5 l c) rfl (fun p l=>N4 p l c) (ARI c) l
theorem ATt(l:List AQ)(c:Int):0<=JU l c:=AGA (F:=fun l=>JU l c) rfl (fun p l=>Vg p l c) (ATs c) l
def wOf(S:List BO):Aq:=⟨(List.range 9).map fun i=>S.filter (F8 i)⟩
theorem dC(S:List BO):(wOf S).Am.length=9:=by simp[wOf]
theorem xq(S:List BO){i:Nat}(h:i<(wOf S).Am.length):(wOf S).Am[i]=S.filter (F8 i):=by simp[wOf]
theorem AT7(S:List BO){i:Nat}(h:i<9):(wOf S).Am.getD i []=S.filter (F8 i):=by
 rw[BQ,AW (by rw[dC];exact h),KN,xq]
theorem xt{S T:List BO}{k:Nat}(a:k<9)(h:∀i,i<9->i≠k->T.filter (F8 i)=S.filter (F8 i)):(⟨(wOf S).Am.set k (T.filter (F8 k))⟩:Aq)=wOf T:=by
 unfold wOf;congr 1;apply List.ext_getElem
 .simp
 grind
theorem my:∀{S:List BO},(∀p∈S,1<=p.At)->(wOf S).Am.flatten.Perm S
 | [],_=>by simp[wOf]|p::S,h=>by
  obtain⟨k,c,e⟩:=bR (h p (Be ..));have G:=my (S:=S) fun q E=>h q (Ax _ E)
  have a:F8 k p=true:=KR.2 e;have j:=xt (S:=S) (T:=p::S) c (by
   intro i hi B;have:F8 i p=false:=by
    grind[F8]
   simp[Ep,this])
  rw[<-j];have g:k<(wOf S).Am.length:=by rw[dC];exact c
  have y:(p::S).filter (F8 k)=p::(wOf S).Am[k]:=by rw[xq];simp[Ep,a]
  rw[y];dsimp only;rw[FN,AX g,ED,EX,List.cons_append];refine(KJ).trans (List.Perm.cons p ?_);rw[<-EX,<-ED,<-Dc g,List.take_append_drop];exact G
structure PU(S:List BO):Prop where
 few:S.length<=10
 pins:∀p∈S,RE p=true
 ids:S.Pairwise fun a b=>a.Id≠b.Id
 srt:S.Pairwise fun a b=>ltP a b=true
theorem m0{S:List BO}(h:PU S):O1 (wOf S):=by
 have c:=my fun p c=>(NH (h.pins p c)).1.1
 refine⟨dC S,by rw[c.length_eq];exact h.few,fun p e=>h.pins p (c.subset e),(c.pairwise_iff (fun h=>Ne.symm h)).2 h.ids,?_,?_⟩
 .grind[wOf,F8]
 .intro i hi k j;have g:(S.filter (F8 i)).Pairwise fun a b=>ltP a b=true:=h.srt.filter _
  grind[xq,List.pairwise_iff_getElem]
theorem ADM{S:List BO}(h:PU S):Ek (wOf S)=S:=by
 have a:=my fun p a=>(NH (h.pins p a)).1.1
 unfold Ek;rw[AX (Ds.2 (m0 h)),kq E7 cX a,P6 E7 h.srt]
theorem AXq{w:Aq}(a:Gx w=true):w=wOf (Ek w):=by
 unfold Ek;rw[AX a];exact Z6 (Ds.1 a)
structure YX(r:Ab)(ps:List AQ)(now:Int)(i:Nat)(c:Ae):Prop where
 row:c.Row=Dw r ps i now
 HS:c.By=wOf (F9 ps i)
 total:c.AY.Total=r.AY.getD i 0
 held:c.AY.Eg=I5 ps i
 KE:c.AY.Fw=JU ps i
 led:FL c.AY=true
 room:DO ps i<=r.Room
structure Ru(r:Ab)(now turn:Int)(ps:List AQ):Prop where
 few:ps.length<=40
 par:∀p∈ps,D6 r p now=true/\p.Av<turn
 ids:ps.Pairwise fun p q=>p.Id<q.Id
 turns:ps.Pairwise fun p q=>IZ p q=false
structure RH(h:AE):Prop where
 rules:D7 h.AS=true
 now:0<=h.Now/\h.Now<=1000000
 turn:1<=h.Av/\h.Av<=1000001
 EL:h.AI.length=h.AS.AY.length
 Ks:Ru h.AS h.Now h.Av h.AG
 cab:∀i (hi:i<h.AI.length),YX h.AS h.AG h.Now i h.AI[i]
 todo:JD h.BA h.AI.length=true
 GV:M4 h.A4 h.AI.length=true
 R3:(h.A4.length:Int)=h.AS.C5
theorem ADg(p q:AQ):IZ p q=IZ q p:=by
 grind[IZ]
theorem ANA{p q:AQ}(h:IZ p q=false):p.Av≠q.Av:=by
 grind[IZ]
theorem Ru.uni{r:Ab}{now turn:Int}{ps:List AQ}(h:Ru r now turn ps):Uni ps:=⟨h.ids.imp fun h=>by omega,h.turns.imp fun h=>ANA h⟩
theorem lD:Swo Kr:=⟨fun a b h=>by unfold Kr at *;simp only[decide_eq_true_eq,decide_eq_false_iff_not]at *;omega,fun a b c h=>by unfold Kr at *;simp only[decide_eq_true_eq]at *;omega⟩
theorem bF{h:AE}:Kt h=true↔(∀p∈h.AG,D6 h.AS p h.Now=true/\p.Av<h.Av)/\(h.AG.Pairwise fun p q=>p.Id<q.Id)/\h.AG.Pairwise fun p q=>IZ p q=false:=by
 have a:∀i (hi:i<h.AG.length),bE h i=true↔D6 h.AS h.AG[i] h.Now=true/\h.AG[i].Av<h.Av/\(∀j (c:j<h.AG.length),j+1=i->h.AG[j].Id<h.AG[i].Id)/\∀j (c:j<i),IZ h.AG[j] h.AG[i]=false:=by
  grind[bE,CR,JT]
 grind[Kt,JT,List.mem_iff_getElem,Nm,Kr,lD,List.pairwise_iff_getElem]
theorem ARe{r:Ab}{p:AQ}{now:Int}(h:D6 r p now=true):0<=Ii r p now/\Ii r p now<=4:=by
 have c:=FG h;have j:=CK c.1;have a:=qP r p.Cs (w64 (now-p.Since));unfold Ii;rw[AX h];refine⟨a,?_⟩;unfold Zb;rw[A6 (n:=now-p.Since) (by omega) (by omega)];have e:0<=(now-p.Since).tdiv r.CQ:=Int.tdiv_nonneg (by omega) (by omega);have g:(now-p.Since).tdiv r.CQ<=now-p.Since:=by rw[Int.tdiv_eq_ediv_of_nonneg (by omega)];exact Int.ediv_le_self _ (by omega)
 grind[A6]
theorem RL{r:Ab}{ps:List AQ}{c now:Int}{e:Ai}(h:e∈Dw r ps c now):∃p∈ps,K4 r c now p=some e:=by
 grind[Dw,P7]
theorem qT{ps:List AQ}{c:Int}{e:BO}(h:e∈F9 ps c):∃p∈ps,MO c p=some e:=by
 grind[F9,P7]
theorem AFp{r:Ab}{ps:List AQ}(h:Uni ps)(c now:Int):(Dw r ps c now).Pairwise fun a b=>a.Id≠b.Id:=by
 refine((Nb _).pairwise_iff (fun h=>Ne.symm h)).2 ?_;rw[FP];refine h.id.imp ?_;intro p q e a g b j;obtain⟨rfl,_⟩:=KU g;obtain⟨rfl,_⟩:=KU j;exact e
theorem RJ(r:Ab)(ps:List AQ)(c now:Int):((Dw r ps c now).length:Int)<=DO ps c:=by
 unfold Dw;rw[Ho];exact cP _ c (by intro p h;unfold K4;rw[h,DF];rfl) ps
theorem AKo(ps:List AQ)(c:Int):((F9 ps c).length:Int)<=DO ps c:=by
 unfold F9;rw[Ho];exact cP _ c (by intro p h;unfold MO;rw[h,DF];rfl) ps
theorem ACW{r:Ab}{ps:List AQ}{now turn:Int}(y:Ru r now turn ps){c:Int}(J:DO ps c<=10):Kv (Dw r ps c now)=true:=by
 have L:=y.uni;have I:=RJ r ps c now;unfold Kv;rw[AF,JT];refine⟨by simp;omega,?_⟩;intro k g;unfold qAt;rw[CR g];obtain⟨p,B,j⟩:=RL (As g);obtain⟨h,e,G,H⟩:=KU j;have q:=ARe e;have a:=FG e;have E:=CK a.1;simp only[AF,BG,decide_eq_false_iff_not];refine⟨?_,?_,?_⟩
 .rw[h];unfold AN2;simp only[AF,CP];omega
 .grind[CR,Dw,List.pairwise_iff_getElem,MT,cW,AMw]
 .have:atF (fun x:Ai=>x.Id==(Dw r ps c now)[k].Id) ((Dw r ps c now).take k) 0<0:=by
   rw[dM]
   grind[List.mem_iff_getElem,List.pairwise_iff_getElem,AFp]
  omega
theorem Xn{r:Ab}{ps:List AQ}{now turn:Int}(B:Ru r now turn ps){c:Int}(Q:DO ps c<=10):PU (F9 ps c):=by
 have O:=AKo ps c;have g:(ps.filterMap (MO c)).Pairwise fun a b=>a.Id≠b.Id:=by
  rw[FP];refine B.uni.id.imp ?_;intro p q j a E b G;obtain⟨rfl,_⟩:=T7 E;obtain⟨rfl,_⟩:=T7 G;exact j
 refine⟨by omega,?_,((Nb _).pairwise_iff (fun h=>Ne.symm h)).2 g,MT E7 (g.imp ?_)⟩
 .intro e H;obtain⟨p,y,I⟩:=qT H;obtain⟨rfl,J,_⟩:=T7 I;have L:=FG (B.par p y).1
  grind[CK,RE,CP]
 grind[ltP]
theorem IV{h:AE}:DE h=true↔RH h:=by
 constructor
 .intro Y;obtain⟨G,H,I,J,L,O,Q,S,X,q⟩:=JI Y;obtain⟨y,B,E⟩:=bF.1 O;refine⟨G,H,I,L,⟨J,y,B,E⟩,?_,Q,S,X⟩;intro i hi;have j:i<h.AS.AY.length:=by omega
  have c:=JT.1 q i hi;unfold Vw at c;rw[CR hi,CR j]at c;unfold Jy LN at c;simp only[AF,beq_iff_eq,BG,decide_eq_false_iff_not,Hs cM,Hs cO]at c;obtain⟨k1,⟨⟨l1,k3,k4⟩,k5,k6,k7,k8⟩,k9⟩:=c;refine⟨k5,?_,?_,k7,k8,l1,by omega⟩
  .rw[<-k6];exact AXq k4
  .rw[k1];simp[List.getD,j]
 .intro hR;unfold DE;have Z:=CK hR.rules;simp only[AF,CP,BG,decide_eq_false_iff_not,beq_iff_eq];refine⟨hR.rules,hR.now,hR.turn,by have:=hR.Ks.few;omega,by rw[hR.EL],bF.2 ⟨hR.Ks.par,hR.Ks.ids,hR.Ks.turns⟩,⟨hR.todo,hR.GV,hR.R3⟩,?_⟩;unfold M8;rw[JT];intro i hi;have j:i<h.AS.AY.length:=by have:=hR.EL;omega
  have a:=hR.cab i hi;have g:DO h.AG i<=10:=by have:=a.room;omega
  have e:=Xn hR.Ks g;unfold Vw Jy LN;rw[CR hi,CR j];simp only[AF,beq_iff_eq,BG,decide_eq_false_iff_not,Hs cM,Hs cO];refine⟨?_,⟨⟨a.led,?_,?_⟩,a.row,?_,a.held,a.KE⟩,by have:=a.room;omega⟩
  .rw[a.total];simp[List.getD,j]
  .rw[a.row];exact ACW hR.Ks g
  .rw[a.HS];exact Ds.2 (m0 e)
  .rw[a.HS];exact ADM e
theorem Hg{l:BE}:FL l=true↔(1<=l.Total/\l.Total<=60)/\(0<=l.Dh/\l.Dh<=l.Total)/\(0<=l.Eg/\l.Eg<=l.Total)/\(0<=l.Ff/\l.Ff<=l.Total)/\l.Dh+l.Eg+l.Ff=l.Total/\0<=l.Fw/\l.Fw<=l.Ff:=by
 grind[FL,CP,A6]
theorem AJB{l:BE}(q:FL l=true){n a b c d:Int}(J:0<=n/\n<=60)(e:a = -1\/a=0\/a=1)(g:b = -1\/b=0\/b=1)(h:c = -1\/c=0\/c=1)(j:d = -1\/d=0\/d=1)
 (H:FL ⟨l.Total,l.Dh+a*n,l.Eg+b*n,l.Ff+c*n,l.Fw+d*n⟩=true):l8 l n a b c d=(⟨l.Total,l.Dh+a*n,l.Eg+b*n,l.Ff+c*n,l.Fw+d*n⟩,true):=by
 have I:=Hg.1 q;have w:∀a x:Int,(a = -1\/a=0\/a=1)->0<=x->x<=60->w64 (x+w64 (a*n))=x+a*n:=by
  grind[A6]
 have y:=w a l.Dh e (by omega) (by omega);have B:=w b l.Eg g (by omega) (by omega);have E:=w c l.Ff h (by omega) (by omega);have G:=w d l.Fw j (by omega) (by omega);unfold l8
 grind[CP]
section
variable{α:Type}{lt:α->α->Bool}
theorem Ts{p:α->Bool}{a:α}(c:p a=true):∀{l:List α},(∀x∈l,p x=false)->(put lt a l).eraseP p=l
 | [],_=>by simp[put,c]|z::l,h=>by
  unfold put;split
  .rw[AaJ (by rw[h z (Be ..)];simp),Ts c fun x e=>h x (Ax _ e)]
  .rw[AaK c]
theorem AJS(a:α):∀l:List α,l.Sublist (put lt a l)
 | []=>List.nil_sublist _|z::l=>by
  unfold put;split
  .exact(AJS a l).cons_cons z
  .exact List.sublist_cons_self ..
theorem ADq{p:α->Bool}{l:List α}{k:Nat}(a:k<l.length)(e:l.eraseP p=l.take k++l.drop (k+1)):l.Perm (l[k]::l.eraseP p):=by
 grind[Dc,List.take_append_drop,List.perm_middle]
theorem set_perm{p:α->Bool}{l:List α}{k:Nat}(c:k<l.length)(e:l.eraseP p=l.take k++l.drop (k+1))(a:α):(l.set k a).Perm (a::l.eraseP p):=by
 rw[e,FN,AX c];exact KJ
end
theorem PU.sub{S T:List BO}(h:PU T)(a:S.Sublist T):PU S:=⟨Aw a.length_le h.few,fun p c=>h.pins p (a.subset c),h.ids.sublist a,h.srt.sublist a⟩
theorem AU6{p x:BO}:isP p x=true↔x=p:=by
 unfold isP;obtain⟨a,b⟩:=p;obtain⟨c,d⟩:=x;simp
theorem lf{S:List BO}{p:BO}(h:PU (put ltP p S)):RE p=true/\PU S/\∀x∈S,isP p x=false:=by
 have c:=h.sub (AJS p S);refine⟨h.pins p (UB.2 (.inl rfl)),c,fun x e=>?_⟩;cases a:isP p x with
 |false=>rfl|true=>
  rw[AU6]at a;subst a;have:=((Xo (lt:=ltP) x S).pairwise_iff (fun h=>Ne.symm h)).1 h.ids
  grind[List.pairwise_cons]
theorem AJm{S:List BO}{p:BO}(h:PU (put ltP p S)){k:Nat}(c:k<9)(e:p.At.tmod 9=(k:Int)):(put ltP p S).filter (F8 k)=put ltP p (S.filter (F8 k))/\∀i,i<9->i≠k->(put ltP p S).filter (F8 i)=S.filter (F8 i):=by
 have g:Srt ltP S:=(lf h).2.1.srt.imp fun {a b} h=>E7.rz _ _ h
 grind[U9,E7,KR]
theorem AVx{S:List BO}{p:BO}(h:PU (put ltP p S)):UN (wOf (put ltP p S)) p=(wOf S,true):=by
 grind[lf,NH,AJm,isP,UN,Ds,m0,AT7,Ts,xt,UB]
theorem AVy{S:List BO}{p:BO}(h:PU (put ltP p S)):NR (wOf S) p=(wOf (put ltP p S),true):=by
 obtain⟨a,y,B⟩:=lf h;have g:=(NH a).1.1;obtain⟨k,c,e⟩:=bR g;obtain⟨j,q⟩:=AJm h c e
 grind[Vk,wOf,Int.toNat_natCast,xt,NR,Ds,m0]
section
variable{p:AQ}{ps:List AQ}(i:Int)
theorem JK(h:1<=p.BC/\p.BC<=6):JU (p::ps) i=(if p.Bl=i then p.BC else 0)+JU ps i:=by
 rw[Vg];unfold rW
 grind[inB]
theorem I0:DO (p::ps) i=(if p.Aa=i then 1 else 0)+DO ps i:=by
 rw[aH];unfold AUc;simp
theorem P3(a:p.State≠2):I5 (p::ps) i=I5 ps i:=by
 rw[N4];unfold XQ;simp[a]
theorem ZP(a:p.State=2)(h:1<=p.BC/\p.BC<=6):I5 (p::ps) i=(if p.Aa=i then p.BC else 0)+I5 ps i:=by
 rw[N4];unfold XQ
 grind[inB]
theorem QL(a:p.State≠2):F9 (p::ps) i=F9 ps i:=by
 rw[VT];unfold MO;simp[a]
theorem T6(a:p.State=2):F9 (p::ps) i=if p.Aa=i then put ltP ⟨p.Ci,p.Id⟩ (F9 ps i) else F9 ps i:=by
 grind[VT,MO]
theorem VX(r:Ab)(now:Int)(a:p.State≠1):Dw r (p::ps) i now=Dw r ps i now:=by
 rw[TN,AR9 a]
theorem Ld{r:Ab}{now:Int}(a:D6 r p now=true)(c:p.State=1):Dw r (p::ps) i now=if p.Aa=i then put ltE ⟨Ii r p now,p.Av,p.Id,p.BC⟩ (Dw r ps i now) else Dw r ps i now:=by
 grind[TN,AKt]
end
section
variable{r:Ab}{now turn:Int}{ps:List AQ}
theorem Ru.sub{qs:List AQ}(h:Ru r now turn ps)(a:qs.Sublist ps):Ru r now turn qs:=
 ⟨Aw a.length_le h.few,fun p c=>h.par p (a.subset c),h.ids.sublist a,h.turns.sublist a⟩
theorem Ru.set(h:Ru r now turn ps){k:Nat}(E:k<ps.length){p:AQ}(G:p.Id=ps[k].Id)(y:p.Av=ps[k].Av)(H:p.Since=ps[k].Since)(B:D6 r p now=true):Ru r now turn (ps.set k p):=by
 have hT:=(h.par _ (As E)).2;have g:∀i (hi:i<(ps.set k p).length),(ps.set k p)[i].Id=(ps[i]'(by simpa using hi)).Id/\(ps.set k p)[i].Av=(ps[i]'(by simpa using hi)).Av/\(ps.set k p)[i].Since=(ps[i]'(by simpa using hi)).Since:=by
  grind
 refine⟨by simpa using h.few,?_,?_,?_⟩
 .intro q e;rcases E3 e with e|rfl
  .exact h.par q e
  .exact⟨B,by rw[y];exact hT⟩
 .rw[CZ];intro i j hi c a;rw[(g i hi).1,(g j c).1];exact CZ.1 h.ids i j _ _ a
 .rw[CZ];intro i j hi c a;have:=CZ.1 h.turns i j (by simpa using hi) (by simpa using c) a
  grind[IZ]
end
theorem AXW{h:AE}{id:Int}(a:0<=GX h id):∃k,∃c:k<h.AG.length,GX h id=(k:Int)/\par h id=h.AG[k]/\(par h id).Id=id/\h.AG.eraseP (fun x=>x.Id==id)=h.AG.take k++h.AG.drop (k+1):=by
 grind[GX,JG,par]
end Lv.P
