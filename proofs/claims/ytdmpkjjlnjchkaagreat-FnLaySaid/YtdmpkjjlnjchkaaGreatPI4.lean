/- Plain laws about what the program computes. -/
import Derived.Test.YtdmpkjjlnjchkaaGreatKE4
import Derived.Test.YtdmpkjjlnjchkaaGreatPF4
noncomputable section
set_option linter.unusedVariables false
set_option linter.unusedSimpArgs false
set_option linter.unusedSectionVars false
open Bool renaming and_eq_true->AF,true_eq_false->Dq
open Int renaming toNat_natCast->Ac
open List renaming any_cons->NU,getD_eq_getElem?_getD->BW,getElem?_eq_getElem->AW,length_take->BS,nil_append->CK
open Nat renaming le_succ->DB,le_trans->Au,lt_or_ge->AT
namespace Lv.P
open Lv Go
theorem Jz{α:Type}(p:α->Bool):∀(l:List α) (s:Nat),(atF p l s = -1/\l.eraseP p=l/\l.any p=false) \/
 ∃k,∃h:k<l.length,atF p l s=((s+k:Nat):Int)/\l.eraseP p=l.take k++l.drop (k+1)/\l.any p=true/\p l[k]=true
 | [],s=>.inl ⟨rfl,rfl,rfl⟩|x::l,s=>by
  by_cases h:p x=true
  .grind[atF]
  .have g:p x=false:=by simpa using h
   rcases Jz p l (s+1) with ⟨a,c,e⟩|⟨k,q,a,c,e,j⟩
   .grind[atF]
   grind[atF]
theorem bz{l:List Ad}(a:l.length<=1048576)(id:Int):ABe l id=some (l.eraseP (fun x=>x.Id==id),l.any fun x=>x.Id==id):=by
 grind[lim,ABe,WA,AB,BA,Jz,Rm,Ai,B9]
theorem de{l:List AK}(a:l.length<=1048576)(id:Int):AIR l id=some (atF (fun x=>x.Id==id) l 0):=by
 grind[AIR,Uw,sE,BH,A7,AB,fT,BN,AR]
theorem AAO{l:List AK}(g:l.length<=1048576)(id:Int):tM l id=some (l.eraseP (fun x=>x.Id==id)):=by
 have hlim:lim=268435456:=rfl;unfold tM;rw[de g,AB,BA];rcases Jz (fun x:AK=>x.Id==id) l 0 with ⟨a,c,e⟩|⟨k,h,a,c,e,_⟩
 .grind[B9]
 grind[Ai,B9]
def l8(l:A9)(n a b c d:Int):A9×Bool:=
 let l':A9:=⟨l.Total,w64 (l.DT+w64 (a*n)),w64 (l.EH+w64 (b*n)),w64 (l.Ep+w64 (c*n)),w64 (l.E8+w64 (d*n))⟩
 if Eh l=true/\inB n 0 60=true/\Eh l'=true then (l',true) else (l,false)
theorem LQ(l:A9)(n a b c d:Int):AI4 l n a b c d=some (l8 l n a b c d):=by
 unfold AI4 sX l8
 grind[TJ,Gv,AB,AR,BZ]
theorem AAP(l:A9)(n:Int):AI5 l n=some (l8 l n 0 0 0 1):=by unfold AI5;rw[LQ,AB]
theorem oR(l:A9)(n:Int):AJg l n=some (l8 l n 0 0 0 (-1)):=by unfold AJg;rw[LQ,AB]
theorem zU(l:A9)(n:Int):bU l n=some (l8 l n (-1) 1 0 0):=by unfold bU;rw[LQ,AB]
theorem zR(l:A9)(n:Int):AI6 l n=some (l8 l n 1 (-1) 0 0):=by unfold AI6;rw[LQ,AB]
theorem zV(l:A9)(n:Int):AJm l n=some (l8 l n 0 (-1) 1 0):=by unfold AJm;rw[LQ,AB]
theorem zS(l:A9)(n:Int):AJj l n=some (l8 l n 1 0 (-1) 0):=by unfold AJj;rw[LQ,AB]
def isP(p:A6)(x:A6):Bool:=x.At==p.At&&(x.Id==p.Id&&true)
def bM(w:An)(p:A6):An×Bool:=
 if HE w=true/\1<=p.At then (⟨w.Ak.set (p.At.tmod 9).toNat ((w.Ak.getD (p.At.tmod 9).toNat []).eraseP (isP p))⟩,(w.Ak.getD (p.At.tmod 9).toNat []).any (isP p)) else (w,false)
theorem cB{w:An}(q:C1 w)(p:A6):tK w p=some (bM w p):=by
 have hlim:lim=268435456:=rfl;have J:=q.1;have y:=q.2;unfold tK bM;rw[aI q,AB,HU q,AB,BI,AR,AR,BZ];by_cases c:HE w=true
 .rw[if_pos c];unfold AkI;rw[BA];by_cases E:p.At<1
  .rw[if_pos E,if_neg (by omega)]
  .rw[if_neg E,if_pos ⟨c,by omega⟩];obtain⟨m,S,e⟩:=oB (n:=p.At) (by omega);have hW:=Du.1 c;have a:m<w.Ak.length:=by have:=hW.1;omega
   have I:w.Ak[m].length<=1048576:=Au (I0 a) y;rw[e,Ac];have H:w.Ak.getD m []=w.Ak[m]:=by rw[BW,AW a];rfl
   rw[H];generalize g:w.Ak[m]=s at I ⊢;have key:=C6 (F:=Ark w p w) (n:=s.length) (fun i (_:Unit)=>(i:Int)) (fun _ _=>True)
    (fun i _=>some (if (s.drop i).any (isP p)=true then ((⟨w.Ak.set m (s.take i++(s.drop i).eraseP (isP p))⟩:An),true) else (w,false))) (by omega) ?_ (v:=()) trivial
   .have key':A4 (Ark w p w) big 0=_:=key;rw[key'];simp only[List.drop_zero,List.take_zero,CK];split
    .rename_i h;rw[h]
    .rename_i h;have B:s.any (isP p)=false:=by simpa using h
     have G:s.eraseP (isP p)=s:=List.eraseP_of_forall_not fun x O=>by
      have:=List.any_eq_false.1 B x O;simpa using this
     rw[B,G,<-g,List.set_getElem_self]
   .intro L i _ _ hi Q;unfold Ark gD;rw[e,A7 a,AB,g];rcases AT i s.length with h|h
    .rw[CC h,BH];simp only[AB,A7 h,Ac];rw[DW h];show br (isP p s[i]) _ _=_;cases j:isP p s[i] with
     |true=>
      rw[BH,BU h (by omega),B9 ⟨by omega,by omega⟩,B9 ⟨by omega,by omega⟩,B9 (by rw[BS];simp;omega),B9 (by rw[List.length_append,BS];simp;omega)];simp only[NU,j,Bool.true_or,if_true,List.eraseP_cons_of_pos j,CK,Ac]
     |false=>
      rw[BN,BU h (by omega),Q () trivial h];simp only[NU,j,Bool.false_or,List.eraseP_cons_of_neg (show ¬isP p s[i]=true by rw[j];simp),List.take_succ_eq_append_getElem h,List.append_assoc,List.singleton_append]
    .have:i=s.length:=by omega
     subst this;rw[Cp,BN,AR,List.drop_length];rfl
 .rw[if_neg c,if_neg (by simp[c])];rfl
def Gi(h:AD)(id:Int):Int:=atF (fun x:AK=>x.Id==id) h.AG 0
theorem HR{h:AD}(a:Bp h)(id:Int):nI h id=some (Gi h id):=by
 unfold nI;rw[de a.CS,AB];rfl
def AG0:AY:=⟨⟨0,0,0,0,0⟩,[],⟨[]⟩⟩
def AFo:AK:=⟨0,0,0,0,0,0,0,0,0,0⟩
theorem Fg{h:AD}{k:Int}(a:0<=k)(c:k<h.AI.length):at? h.AI k=some (h.AI.getD k.toNat AG0):=by
 grind[A7]
theorem kC{h:AD}{k:Int}(a:0<=k)(c:k<h.AG.length):at? h.AG k=some (h.AG.getD k.toNat AFo):=by
 grind[A7]
theorem V3{h:AD}{id:Int}(a:0<=Gi h id):Gi h id<h.AG.length/\(h.AG.getD (Gi h id).toNat AFo).Id=id:=by
 grind[Gi,Jz]
def K3(h:AD)(k:Int):Int:=w64 ((h.AI.getD k.toNat AG0).AV.Ep-(h.AI.getD k.toNat AG0).AV.E8)
theorem cC{h:AD}{k:Int}(a:0<=k)(c:k<h.AI.length):fq h k=some (K3 h k):=by
 unfold fq;rw[Fg a c,AB,AB];rfl
def iw(h:AD)(q:BX):Int:=
 if (h.AI.length:Int)<=q.Aa\/(h.AI.length:Int)<=q.Bl\/q.Bl=q.Aa then 4
 else if inB q.A2 1 h.AO.A2=false then 5
 else if h.AO.CJ<=q.Cj then 6
 else if inB q.Id 1 999=false then 7
 else if 0<=Gi h q.Id then 8
 else if h.AO.Room<=DQ h.AG q.Aa then 9
 else if 0<=q.Bl/\K3 h q.Bl<q.A2 then 10
 else if 1000000<h.Ap then 11 else 0
theorem AGM{h:AD}(a:Bp h)(q:BX):sU h q=some (iw h q):=by
 have j:=a.CS;have g:∀b,((h.AI.length:Int)<=q.Bl->b=true)->Aq1 h q b=some (if b=true then 4
  else if inB q.A2 1 h.AO.A2=false then 5
  else if h.AO.CJ<=q.Cj then 6
  else if inB q.Id 1 999=false then 7
  else if 0<=Gi h q.Id then 8
  else if h.AO.Room<=DQ h.AG q.Aa then 9
  else if 0<=q.Bl/\K3 h q.Bl<q.A2 then 10
  else if 1000000<h.Ap then 11 else 0):=by
  intro b c;unfold Aq1 AI0;cases b with
  |true=>rfl|false=>
   have hF:q.Bl<h.AI.length:=by
    by_cases e:(h.AI.length:Int)<=q.Bl
    .cases c e
    .omega
   simp only[BN,Gv,AB,BI,BZ,Bool.false_eq_true,if_false,ge_iff_le,gt_iff_lt,decide_eq_true_eq,HR a,PM (show h.AG.length<2 ^ 58 by omega),AR];cases inB q.A2 1 h.AO.A2
   .rfl
   .grind[cC,AB]
 grind[sU,iw,BA,AR]
def AYs(p:AK)(now:Int):Bool:=p.State==2&&decide (p.Cf<=now)
theorem AcO(p:AK)(now:Int):AQ7 p now=some (AYs p now):=by
 unfold AQ7 AtJ AYs;rw[AR,AR,Cv]
def LW(h:AD)(id:Int):Int:=
 if Gi h id<0 then 7
 else if (h.AG.getD (Gi h id).toNat AFo).State≠2 then 13
 else if AYs (h.AG.getD (Gi h id).toNat AFo) h.Now=true then 14 else 0
theorem Z9{h:AD}(a:Bp h)(id:Int):Pw h id=some (LW h id):=by
 unfold Pw LW
 grind[HR,AB,kC,V3,AcO,BZ]
def IL(h:AD)(q:BX):Int:=
 if inB q.Kind 1 7=false then 2
 else if LR q=false then 3
 else if q.Kind=1 then iw h q
 else if q.Kind=2 then if Gi h q.Id<0 then 7 else 0
 else if q.Kind=3 then if (h.AI.length:Int)<=q.Aa then 4 else if inB q.A2 1 60=false then 5 else if K3 h q.Aa<q.A2 then 12 else 0
 else if q.Kind=4\/q.Kind=5 then LW h q.Id
 else if q.Kind=6 then if 1000000<=h.Now then 15 else 0
 else if q.Kind=7 then if h.AO.Cs<=q.Id then 16 else if h.A8.getD q.Id.toNat 0<0/\h.BC.length=0 then 17 else 0
 else 0
def verdict(h:AD)(q:BX):Int:=if DR h=true then IL h q else 1
theorem HT{h:AD}(y:Bp h)(q:BX):sW h q=some (verdict h q):=by
 unfold sW verdict;rw[GW y,AB,BI,BZ];by_cases j:DR h=true
 .rw[if_pos j,if_pos j];unfold IL;rw[Gv,AB,BI,BZ];cases inB q.Kind 1 7
  .rfl
  .simp only[if_true,Dq,if_false];rw[zW,AB,BI,BZ];cases e:LR q
   .rfl
   .simp only[if_true,Dq,if_false,BZ,beq_iff_eq,AR];by_cases g:q.Kind=1
    .rw[if_pos g,if_pos g,AGM y,AB]
    .rw[if_neg g,if_neg g];by_cases E:q.Kind=2
     .rw[if_pos E,if_pos E,HR y,AB];simp only[decide_eq_true_eq];split<;>rfl
     .rw[if_neg E,if_neg E];by_cases B:q.Kind=3
      .rw[if_pos B,if_pos B];have Y:0<=q.Aa:=by
        unfold LR at e;rw[if_neg g,if_neg (by omega),if_pos B]at e;simp only[AF,Wk,CY]at e;exact e.1.1
       simp only[ge_iff_le,decide_eq_true_eq,Gv,AB,Bool.not_eq_true'];by_cases a:(h.AI.length:Int)<=q.Aa
       .rw[if_pos a,if_pos a]
       .rw[if_neg a,if_neg a];cases inB q.A2 1 60
        .rfl
        .simp only[Dq,if_false];rw[cC Y (by omega),AB];by_cases X:K3 h q.Aa<q.A2<;>simp[X]<;>rfl
      .rw[if_neg B,if_neg B];unfold Aju;by_cases c:q.Kind=4\/q.Kind=5
       .rw[if_pos c];rcases c with c|c
        .simp only[c,if_true,beq_self_eq_true,BH,Z9 y,AB]
        .simp only[c,if_true,beq_self_eq_true,BH,Z9 y,AB];rfl
       .have I:q.Kind≠4:=fun h=>c (.inl h)
        have J:q.Kind≠5:=fun h=>c (.inr h)
        rw[if_neg c,if_neg I];have O:(q.Kind==5)=false:=by simpa using J
        rw[O,BN]
        try simp only[BZ,beq_iff_eq,AR,ge_iff_le,decide_eq_true_eq]
        by_cases G:q.Kind=6
        .rw[if_pos G,if_pos G];split<;>rfl
        .rw[if_neg G,if_neg G];by_cases H:q.Kind=7
         .rw[if_pos H,if_pos H];have hR:=RG j;have hi:0<=q.Id:=by
           unfold LR at e;rw[if_neg g,if_pos (by omega)]at e;simp only[AF,Wk,CY]at e;exact e.1.1
          by_cases a:h.AO.Cs<=q.Id
          .rw[if_pos a,if_pos a]
          .rw[if_neg a,if_neg a];obtain⟨n,Z⟩:=Int.eq_ofNat_of_zero_le hi;have L:n<h.A8.length:=by have:=hR.Wm;omega
           rw[Z,A7 L,AB,Ac,BW,AW L,Option.getD_some];unfold AtK Aqq;simp only[BZ,AR,beq_iff_eq];by_cases Q:h.A8[n]<0<;>by_cases S:h.BC.length=0<;>simp[Q,S]
         .rw[if_neg H,if_neg H];rfl
 .rw[if_neg j,if_neg j]
def Wo(l:List Int)(k:Int):List Int:=if l.any (fun y=>y==k)=true then l else l++[k]
theorem J4{l:List Int}(a:l.length<=1048576)(k:Int):AYG l k=some (Wo l k):=by
 grind[lim,AYG,Wo,B9,WE,AB,BZ]
def cbn(h:AD)(k:Int):AY:=h.AI.getD k.toNat AG0
def C7(h:AD)(k:Int)(c:AY):AD:=⟨h.AO,h.Now,h.Ap,h.AG,h.AI.set k.toNat c,h.BC,h.A8⟩
theorem cK{h:AD}{k:Int}(a:0<=k)(c:k<h.AI.length):cbn h k∈h.AI:=by
 grind[cbn,List.getElem?_eq_getElem,List.getElem_mem]
theorem n7{h:AD}(e:Bp h){p:AK}(a:0<=p.Aa)(c:p.Aa<h.AI.length) :
 AI3 h p=some (C7 h p.Aa ⟨(cbn h p.Aa).AV,put ltE (Ez h.AO p h.Now).1 (cbn h p.Aa).Row,(cbn h p.Aa).Bw⟩):=by
 have hlim:lim=268435456:=rfl;have j:=e.Dd;have g:=(e.De _ (cK a c)).1;unfold AI3;rw[jd (by omega),AB,Fg a c,AB,AB];show bd (Afp (cbn h p.Aa).Row _) _=_;rw[dg (by omega),AB,AB,AB];rfl
theorem jh{h:AD}(g:Bp h){p:AK}(a:0<=p.Aa)(c:p.Aa<h.AI.length) :
 AJe h p=some (C7 h p.Aa ⟨(l8 (cbn h p.Aa).AV p.A2 1 (-1) 0 0).1,(cbn h p.Aa).Row,(bM (cbn h p.Aa).Bw ⟨p.Cf,p.Id⟩).1⟩):=by
 have e:=(g.De _ (cK a c)).2;unfold AJe;rw[Fg a c,AB,AB,zR,AB];show bd (tK (cbn h p.Aa).Bw _) _=_;rw[cB e,AB,AB,AB,B9 ⟨rfl,⟨by omega,by omega⟩,trivial⟩];rfl
def gone(h:AD)(p:AK):AD:=
 let h':AD:=⟨h.AO,h.Now,h.Ap,h.AG.eraseP (fun x=>x.Id==p.Id),h.AI,h.BC,h.A8⟩
 if 0<=p.Bl then C7 h' p.Bl ⟨(l8 (cbn h p.Bl).AV p.A2 0 0 0 (-1)).1,(cbn h p.Bl).Row,(cbn h p.Bl).Bw⟩ else h'
theorem PR{h:AD}(e:Bp h){p:AK}(c:p.Bl<h.AI.length):AJi h p=some (gone h p):=by
 unfold AJi gH gone;rw[AAO e.CS,AB,BA];by_cases a:0<=p.Bl
 .rw[if_pos a,if_pos a,Fg a c,AB,AB,oR,AB,AB,AB,AR];rfl
 .rw[if_neg a,if_neg a,AR]
def bY(h:AD)(k n:Int):AD:=
 let h':=C7 h k ⟨(l8 (cbn h k).AV n 1 0 (-1) 0).1,(cbn h k).Row,(cbn h k).Bw⟩
 ⟨h'.AO,h'.Now,h'.Ap,h'.AG,h'.AI,Wo h.BC k,h'.A8⟩
theorem ji{h:AD}(e:Bp h){k:Int}(a:0<=k)(c:k<h.AI.length)(n:Int):ABf h k n=some (bY h k n):=by
 unfold ABf bY;rw[Fg a c,AB,AB,zS,AB,AB,AB,J4 e.todo,AB];rfl
def Lw(a b:AK):Bool:=decide (a.Id<b.Id)
def MK(l:List AK)(p:AK):List AK:=
 if 0<=atF (fun x:AK=>x.Id==p.Id) l 0 then l.set (atF (fun x:AK=>x.Id==p.Id) l 0).toNat p else put Lw p l
theorem TK{l:List AK}(c:l.length<=1048576)(p:AK):AIV l p=some (MK l p):=by
 have hlim:lim=268435456:=rfl;unfold AIV MK;rw[de c,AB,B9 (by omega),BA,CK];split
 .grind[atF,AK,Jz,A7,AB]
 .rename_i e;have a:∀i:Nat,i<=l.length->A83 l p i=some (l.take i++p::l.drop i):=by
   grind[A83,Cw,Ja,Jb,Jc,Jd,I9,Je,Jf,Ej,MH,Int.toNat_natCast,List.length_take,B9,List.length_cons,List.length_nil,List.length_append,List.length_drop]
  refine Zq (lt:=Lw) some (by omega) ?_ ?_
  .intro L i h;unfold sH AIW;rw[CC h,BH,A7 h,AB,AR,AR,a i (by omega)];rfl
  .intro L;unfold sH AIW;rw[Cp,BN,AR,BN,AR,a _ (Nat.le_refl _)];simp
def Eg(r:AZ)(p:AK)(now:Int):AK×Bool:=
 if D9 r p now=true/\p.State=2/\w64 (p.Cu+1)<r.CL then (⟨p.Id,p.Aa,p.Bl,p.A2,p.Cj,p.Since,p.Ap,1,w64 (now+r.Rest),w64 (p.Cu+1)⟩,true) else (AFo,false)
theorem AMp{r:AZ}(e:r.AV.length<2 ^ 62)(p:AK)(now:Int):ARQ r p now=some (Eg r p now):=by
 unfold ARQ A9k Eg;rw[PO e,AB];simp only[AR,BI,BZ,ge_iff_le,decide_eq_true_eq,bne_iff_ne,ne_eq];cases D9 r p now
 .rfl
 .by_cases a:p.State=2
  .by_cases c:r.CL<=w64 (p.Cu+1)
   .have:¬w64 (p.Cu+1)<r.CL:=by omega
    simp[a,c,this];rfl
   grind
  .simp[a];rfl
structure du(n:Nat)(c:AY):Prop where
 row:c.Row.length<=n
 cE:c.Bw.Ak.length<=1048576
 pins:c.Bw.Ak.flatten.length<=n
structure Sm(n:Nat)(h:AD):Prop where
 Dd:h.AO.AV.length<=1048576
 CS:h.AG.length<=n
 EG:h.AI.length<=1048576
 De:∀c∈h.AI,du n c
 todo:h.BC.length<=n
 F4:h.A8.length<=1048576
theorem du.mono{n m:Nat}{c:AY}(h:du n c)(a:n<=m):du m c:=⟨Au h.row a,h.cE,Au h.pins a⟩
theorem Sm.mono{n m:Nat}{h:AD}(a:Sm n h)(e:n<=m):Sm m h:=
 ⟨a.Dd,Au a.CS e,a.EG,fun c g=>(a.De c g).mono e,Au a.todo e,a.F4⟩
theorem Sm.fit{n:Nat}{h:AD}(a:Sm n h)(e:n<=1048576):Bp h:=
 ⟨a.Dd,Au a.CS e,a.EG,fun c g=>⟨Au (a.De c g).row e,(a.De c g).cE,Au (a.De c g).pins e⟩,Au a.todo e,a.F4⟩
theorem Sm.cab{n:Nat}{h:AD}(a:Sm n h){k:Int}{c:AY}(j:du n c):Sm n (C7 h k c):=by
 refine⟨a.Dd,a.CS,by simpa[C7] using a.EG,?_,a.todo,a.F4⟩;intro q e;rcases List.mem_or_eq_of_mem_set e with g|rfl
 .exact a.De _ g
 .exact j
theorem AdQ(n:Nat):du n AG0:=⟨by simp[AG0],by simp[AG0],by simp[AG0]⟩
theorem Sm.cbn{n:Nat}{h:AD}(e:Sm n h)(k:Int):du n (cbn h k):=by
 unfold Lv.P.cbn;rw[BW];cases a:h.AI[k.toNat]? with
 |none=>exact AdQ n|some c=>exact e.De c (List.mem_of_getElem? a)
theorem dW{α:Type}(lt:α->α->Bool)(a:α):∀l:List α,(put lt a l).length=l.length+1| []=>rfl|b::l=>by unfold put;split<;>simp[dW lt a l]
theorem cS{α:Type}(p:α->Bool)(l:List α):(l.eraseP p).length<=l.length:=(List.eraseP_sublist).length_le
theorem AUU{n:Nat}{c:AY}(h:du n c)(p:A6):(bM c.Bw p).1.Ak.length<=1048576/\(bM c.Bw p).1.Ak.flatten.length<=n:=by
 unfold bM;split
 .refine⟨by simpa using h.cE,?_⟩;rcases AT (p.At.tmod 9).toNat c.Bw.Ak.length with a|a
  .have e:c.Bw.Ak.getD (p.At.tmod 9).toNat []=c.Bw.Ak[(p.At.tmod 9).toNat]:=by rw[BW,AW a];rfl
   have g:=w7 a ((c.Bw.Ak[(p.At.tmod 9).toNat]).eraseP (isP p));have j:=cS (isP p) (c.Bw.Ak[(p.At.tmod 9).toNat]);have q:=h.pins;dsimp only;rw[e];omega
  .dsimp only;rw[List.set_eq_of_length_le a];exact h.pins
 .exact⟨h.cE,h.pins⟩
theorem Un(l:List Int)(k:Int):(Wo l k).length<=l.length+1:=by unfold Wo;split<;>simp
theorem Aar(l:List AK)(p:AK):(MK l p).length<=l.length+1:=by
 grind[MK,dW]
theorem AcD{n:Nat}{h:AD}(g:Sm n h){c:AY}{e:Ad}{k:Int}{l:A9}(a:du n c):Sm (n+1) (C7 h k ⟨l,put ltE e c.Row,c.Bw⟩):=by
 refine(g.mono (DB n)).cab ⟨?_,a.cE,Au a.pins (DB n)⟩;rw[dW];have:=a.row;omega
theorem o9{n:Nat}{h:AD}(a:Sm n h)(p:AK):Sm n (gone h p):=by
 have e:Sm n ⟨h.AO,h.Now,h.Ap,h.AG.eraseP (fun x=>x.Id==p.Id),h.AI,h.BC,h.A8⟩:=
  ⟨a.Dd,Au (cS _ _) a.CS,a.EG,a.De,a.todo,a.F4⟩
 unfold gone;dsimp only;split
 .have c:=a.cbn p.Bl;exact e.cab ⟨c.row,c.cE,c.pins⟩
 .exact e
theorem ALW{n:Nat}{h:AD}(g:Sm n h)(k m:Int):Sm (n+1) (bY h k m):=by
 have e:=g.cbn k;have a:=(g.cab (k:=k) (c:=⟨(l8 (Lv.P.cbn h k).AV m 1 0 (-1) 0).1,(Lv.P.cbn h k).Row,(Lv.P.cbn h k).Bw⟩) ⟨e.row,e.cE,e.pins⟩).mono (DB n);unfold bY;exact⟨a.Dd,a.CS,a.EG,a.De,Au (Un _ _) (by have:=g.todo;omega),a.F4⟩
def dropped(h:AD)(p:AK):AD:=C7 h p.Aa ⟨(l8 (cbn h p.Aa).AV p.A2 1 (-1) 0 0).1,(cbn h p.Aa).Row,(bM (cbn h p.Aa).Bw ⟨p.Cf,p.Id⟩).1⟩
theorem P2{n:Nat}{h:AD}(c:Sm n h)(p:AK):Sm n (dropped h p):=by
 have a:=c.cbn p.Aa;have e:=AUU a ⟨p.Cf,p.Id⟩;exact c.cab ⟨a.row,e.1,e.2⟩
def RC(h:AD)(l:List AK):AD:=⟨h.AO,h.Now,h.Ap,l,h.AI,h.BC,h.A8⟩
def HC(h:AD)(p:AK):AD:=C7 h p.Aa ⟨(cbn h p.Aa).AV,put ltE (Ez h.AO p h.Now).1 (cbn h p.Aa).Row,(cbn h p.Aa).Bw⟩
theorem bD{n:Nat}{h:AD}(c:Sm n h)(p:AK):Sm (n+1) (RC h (MK h.AG p)):=by
 have a:=c.mono (DB n);exact⟨a.Dd,Au (Aar _ _) (by have:=c.CS;omega),a.EG,a.De,a.todo,a.F4⟩
def JH(h:AD)(p:AK):AD:=
 if (Eg h.AO p h.Now).2=true then HC (RC (dropped h p) (MK h.AG (Eg h.AO p h.Now).1)) (Eg h.AO p h.Now).1 else gone (dropped h p) p
theorem nR{r:AZ}{p:AK}{now:Int}(h:(Eg r p now).2=true):(Eg r p now).1.Aa=p.Aa:=by
 grind[Eg]
theorem AYy{n:Nat}{h:AD}(a:Sm n h)(p:AK):Sm (n+2) (JH h p):=by
 unfold JH;split
 .exact AcD (bD (P2 a p) _) ((bD (P2 a p) _).cbn _)
 .exact(o9 (P2 a p) p).mono (by omega)
theorem cD{n:Nat}(G:n+2<=1048576){h:AD}(c:Sm n h){p:AK}(e:0<=p.Aa)(g:p.Aa<h.AI.length)(y:p.Bl<h.AI.length):ARR h p=some (JH h p):=by
 unfold ARR;rw[jh (c.fit (by omega)) e g,AB];have q:=P2 c p;have H:=c.Dd;show bd (ARQ h.AO p h.Now) _=_;rw[AMp (by omega),AB,BI,BZ];unfold JH;have a:(dropped h p).AI.length=h.AI.length:=by simp[dropped,C7]
 split
 .rename_i B;have j:=nR B;rw[TK (by have:=c.CS;show h.AG.length<=_;omega),AB];have E:=bD q (Eg h.AO p h.Now).1;show bd (AI3 (RC (dropped h p) (MK h.AG (Eg h.AO p h.Now).1)) _) _=_;rw[n7 (h:=RC (dropped h p) (MK h.AG (Eg h.AO p h.Now).1)) (E.fit (by omega)) (by rw[j];exact e) (by rw[j];show p.Aa<((dropped h p).AI.length:Int);rw[a];exact g),AB];rfl
 .show bd (AJi (dropped h p) p) _=_;rw[PR (q.fit (by omega)) (by rw[a];exact y),AB]
def FJ(h:AD)(l:List Int):AD:=⟨h.AO,h.Now,h.Ap,h.AG,h.AI,l,h.A8⟩
def IN(h:AD)(id cabin frm size tier:Int):AK:=⟨id,cabin,frm,size,tier,h.Now,h.Ap,1,0,0⟩
def K6(h:AD)(k n:Int):AD:=C7 h k ⟨(l8 (cbn h k).AV n 0 0 0 1).1,(cbn h k).Row,(cbn h k).Bw⟩
def Of(h:AD)(id cabin frm size tier:Int):AD:=
 let p:=IN h id cabin frm size tier
 let x:=HC ⟨h.AO,h.Now,w64 (h.Ap+1),MK h.AG p,h.AI,h.BC,h.A8⟩ p
 let y:=if 0<=frm then K6 x frm size else x
 FJ y (Wo y.BC cabin)
def yD(h:AD)(id cabin frm size tier:Int):AD×Int:=
 if verdict h ⟨1,id,cabin,frm,size,tier⟩≠0 then (h,verdict h ⟨1,id,cabin,frm,size,tier⟩) else (Of h id cabin frm size tier,0)
theorem AVN{h:AD}(e:Bp h){p:AK}(a:0<=p.Aa)(c:p.Aa<h.AI.length):AI3 h p=some (HC h p):=n7 e a c
theorem jv{h:AD}{id cabin frm size tier:Int}(a:verdict h ⟨1,id,cabin,frm,size,tier⟩=0):DR h=true/\0<=cabin/\cabin<h.AI.length/\frm<h.AI.length:=by
 grind[verdict,IL,LR,Wk,CY,iw]
theorem AXB{n:Nat}(Q:n+3<=1048576){h:AD}(G:Sm n h)(id cabin frm size tier:Int):sY h id cabin frm size tier=some (yD h id cabin frm size tier)/\Sm (n+3) (yD h id cabin frm size tier).1:=by
 have E:=G.fit (by omega);unfold sY sZ yD;rw[H9 E,AB,HT E,AB];simp only[BZ,bne_iff_ne,ne_eq,BA,ge_iff_le,AR];by_cases y:verdict h ⟨1,id,cabin,frm,size,tier⟩=0
 .obtain⟨O,I,J,L⟩:=jv y;rw[if_neg (not_not_intro y),if_neg (not_not_intro y),TK E.CS,AB];have g:Sm (n+1) (⟨h.AO,h.Now,w64 (h.Ap+1),MK h.AG (IN h id cabin frm size tier),h.AI,h.BC,h.A8⟩:AD):=by
   have j:=bD G (IN h id cabin frm size tier);exact⟨j.Dd,j.CS,j.EG,j.De,j.todo,j.F4⟩
  have e:Sm (n+2) (HC ⟨h.AO,h.Now,w64 (h.Ap+1),MK h.AG (IN h id cabin frm size tier),h.AI,h.BC,h.A8⟩ (IN h id cabin frm size tier)):=AcD g (g.cbn _);show bd (AI3 ⟨h.AO,h.Now,w64 (h.Ap+1),MK h.AG (IN h id cabin frm size tier),h.AI,h.BC,h.A8⟩ (IN h id cabin frm size tier)) _=_/\_;rw[AVN (g.fit (by omega)) (show 0<=(IN h id cabin frm size tier).Aa from I) (show (IN h id cabin frm size tier).Aa<_ from J),AB];simp only[decide_eq_true_eq];unfold Of;dsimp only;generalize hX:HC ⟨h.AO,h.Now,w64 (h.Ap+1),MK h.AG (IN h id cabin frm size tier),h.AI,h.BC,h.A8⟩ (IN h id cabin frm size tier)=X at e ⊢;have q:X.AI.length=h.AI.length:=by rw[<-hX];simp[HC,C7]
  by_cases c:0<=frm
  .rw[if_pos c,if_pos c,Fg c (by rw[q];exact L),AB,AB,AAP,AB,AB,AB,J4 (by have:=e.todo;show X.BC.length<=_;omega),AB];have B:=e.cbn frm;have H:Sm (n+2) (K6 X frm size):=e.cab ⟨B.row,B.cE,B.pins⟩;have a:=H.mono (DB (n+2));exact⟨rfl,a.Dd,a.CS,a.EG,a.De,Au (Un _ _) (by have:=H.todo;omega),a.F4⟩
  .rw[if_neg c,if_neg c];show bd (AYG X.BC cabin) _=_/\_;rw[J4 (by have:=e.todo;omega),AB];have a:=e.mono (DB (n+2));exact⟨rfl,a.Dd,a.CS,a.EG,a.De,Au (Un _ _) (by have:=e.todo;omega),a.F4⟩
 .rw[if_pos y,if_pos y];exact⟨rfl,G.mono (by omega)⟩
def par(h:AD)(id:Int):AK:=h.AG.getD (Gi h id).toNat AFo
theorem y8{h:AD}(e:DR h=true){id:Int}(c:0<=Gi h id):0<=(par h id).Aa/\(par h id).Aa<h.AI.length /\ -1<=(par h id).Bl/\(par h id).Bl<h.AI.length/\(par h id).Id=id:=by
 have hR:=RG e;obtain⟨y,B⟩:=V3 c;have hi:(Gi h id).toNat<h.AG.length:=by omega
 have a:=hR.par _ hi;have j:par h id=h.AG[(Gi h id).toNat]:=by unfold par;rw[BW,AW hi];rfl
 rw[<-j]at a;unfold D9 at a;have E:=hR.Dd;simp only[AF,CY]at a;obtain⟨_,_,_,g,q,_⟩:=a;rw[Ai (by omega) (by omega)]at g q;have:=hR.EG
 grind
def xB(h:AD)(k n:Int):AD×Int:=
 if verdict h ⟨3,0,k,0,n,0⟩≠0 then (h,verdict h ⟨3,0,k,0,n,0⟩) else (bY h k n,0)
theorem ju{h:AD}{k n:Int}(a:verdict h ⟨3,0,k,0,n,0⟩=0):DR h=true/\0<=k/\k<h.AI.length:=by
 grind[verdict,IL,LR,Wk,CY]
theorem zM{m:Nat}(y:m+1<=1048576){h:AD}(e:Sm m h)(k n:Int):ARP h k n=some (xB h k n)/\Sm (m+1) (xB h k n).1:=by
 have c:=e.fit (by omega);unfold ARP xB;rw[H9 c,AB,HT c,AB];simp only[BZ,bne_iff_ne,ne_eq];by_cases a:verdict h ⟨3,0,k,0,n,0⟩=0
 .obtain⟨q,g,j⟩:=ju a
  grind[ji,AB,ALW]
 .rw[if_pos a,if_pos a];exact⟨rfl,e.mono (by omega)⟩
end Lv.P
