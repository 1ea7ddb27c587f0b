/- Plain laws about what the program computes. -/
import Derived.Test.YtnjoipcemhflkaaGreatKEc
import Derived.Test.YtnjoipcemhflkaaGreatPFc
noncomputable section
set_option linter.unusedVariables false
set_option linter.unusedSimpArgs false
set_option linter.unusedSectionVars false
open Bool renaming and_eq_true->AF,true_eq_false->DN
open Int renaming toNat_natCast->Ac
open List renaming any_cons->Lk,getD_eq_getElem?_getD->A0,getElem?_eq_getElem->AU,length_take->BH,nil_append->Bk
open Nat renaming le_succ->Cl,le_trans->Ar,lt_or_ge->AV
namespace Lv.P
open Lv Go
theorem Iw{α:Type}(p:α->Bool):∀(l:List α) (s:Nat),(atF p l s = -1/\l.eraseP p=l/\l.any p=false) \/
 ∃k,∃h:k<l.length,atF p l s=((s+k:Nat):Int)/\l.eraseP p=l.take k++l.drop (k+1)/\l.any p=true/\p l[k]=true
 | [],s=>.inl ⟨rfl,rfl,rfl⟩|x::l,s=>by
  by_cases h:p x=true
  .grind[atF]
  .have g:p x=false:=by simpa using h
   rcases Iw p l (s+1) with ⟨a,c,e⟩|⟨k,q,a,c,e,j⟩
   .grind[atF]
   grind[atF]
theorem UL{l:List Ae}(a:l.length<=1048576)(id:Int):eR l id=some (l.eraseP (fun x=>x.Id==id),l.any fun x=>x.Id==id):=by
 grind[lim,eR,RE,AB,BJ,Iw,Ou,A4,Bt]
theorem VA{l:List AQ}(a:l.length<=1048576)(id:Int):Vt l id=some (atF (fun x=>x.Id==id) l 0):=by
 grind[Vt,QR,cj,BP,A9,AB,ch,BS,AT]
theorem kH{l:List AQ}(g:l.length<=1048576)(id:Int):AEn l id=some (l.eraseP (fun x=>x.Id==id)):=by
 have hlim:lim=268435456:=rfl;unfold AEn;rw[VA g,AB,BJ];rcases Iw (fun x:AQ=>x.Id==id) l 0 with ⟨a,c,e⟩|⟨k,h,a,c,e,_⟩
 .grind[Bt]
 grind[A4,Bt]
def l8(l:A3)(n a b c d:Int):A3×Bool:=
 let l':A3:=⟨l.Total,w64 (l.DP+w64 (a*n)),w64 (l.ER+w64 (b*n)),w64 (l.E6+w64 (c*n)),w64 (l.FP+w64 (d*n))⟩
 if EW l=true/\inB n 0 60=true/\EW l'=true then (l',true) else (l,false)
theorem KA(l:A3)(n a b c d:Int):WK l n a b c d=some (l8 l n a b c d):=by
 unfold WK eM l8
 grind[PE,GC,AB,AT,Bb]
theorem kJ(l:A3)(n:Int):AEk l n=some (l8 l n 0 0 0 1):=by unfold AEk;rw[KA,AB]
theorem Z4(l:A3)(n:Int):AEo l n=some (l8 l n 0 0 0 (-1)):=by unfold AEo;rw[KA,AB]
theorem jQ(l:A3)(n:Int):xa l n=some (l8 l n (-1) 1 0 0):=by unfold xa;rw[KA,AB]
theorem jO(l:A3)(n:Int):AEm l n=some (l8 l n 1 (-1) 0 0):=by unfold AEm;rw[KA,AB]
theorem jR(l:A3)(n:Int):AEs l n=some (l8 l n 0 (-1) 1 0):=by unfold AEs;rw[KA,AB]
theorem jP(l:A3)(n:Int):AEq l n=some (l8 l n 1 0 (-1) 0):=by unfold AEq;rw[KA,AB]
def isP(p:BB)(x:BB):Bool:=x.At==p.At&&(x.Id==p.Id&&true)
def Tz(w:Aj)(p:BB):Aj×Bool:=
 if HK w=true/\1<=p.At then (⟨w.Ag.set (p.At.tmod 9).toNat ((w.Ag.getD (p.At.tmod 9).toNat []).eraseP (isP p))⟩,(w.Ag.getD (p.At.tmod 9).toNat []).any (isP p)) else (w,false)
theorem UN{w:Aj}(q:Cv w)(p:BB):lf w p=some (Tz w p):=by
 have hlim:lim=268435456:=rfl;have J:=q.1;have y:=q.2;unfold lf Tz;rw[TK q,AB,I1 q,AB,BN,AT,AT,Bb];by_cases c:HK w=true
 .rw[if_pos c];unfold eP;rw[BJ];by_cases E:p.At<1
  .rw[if_pos E,if_neg (by omega)]
  .rw[if_neg E,if_pos ⟨c,by omega⟩];obtain⟨m,S,e⟩:=Zv (n:=p.At) (by omega);have hW:=DT.1 c;have a:m<w.Ag.length:=by have:=hW.1;omega
   have I:w.Ag[m].length<=1048576:=Ar (KB a) y;rw[e,Ac];have H:w.Ag.getD m []=w.Ag[m]:=by rw[A0,AU a];rfl
   rw[H];generalize g:w.Ag[m]=s at I ⊢;have key:=DE (F:=WL w p w) (n:=s.length) (fun i (_:Unit)=>(i:Int)) (fun _ _=>True)
    (fun i _=>some (if (s.drop i).any (isP p)=true then ((⟨w.Ag.set m (s.take i++(s.drop i).eraseP (isP p))⟩:Aj),true) else (w,false))) (by omega) ?_ (v:=()) trivial
   .have key':A7 (WL w p w) big 0=_:=key;rw[key'];simp only[List.drop_zero,List.take_zero,Bk];split
    .rename_i h;rw[h]
    .rename_i h;have B:s.any (isP p)=false:=by simpa using h
     have G:s.eraseP (isP p)=s:=List.eraseP_of_forall_not fun x O=>by
      have:=List.any_eq_false.1 B x O;simpa using this
     rw[B,G,<-g,List.set_getElem_self]
   .intro L i _ _ hi Q;unfold WL xU;rw[e,A9 a,AB,g];rcases AV i s.length with h|h
    .rw[Bw h,BP];simp only[AB,A9 h,Ac];rw[Dw h];show br (isP p s[i]) _ _=_;cases j:isP p s[i] with
     |true=>
      rw[BP,BX h (by omega),Bt ⟨by omega,by omega⟩,Bt ⟨by omega,by omega⟩,Bt (by rw[BH];simp;omega),Bt (by rw[List.length_append,BH];simp;omega)];simp only[Lk,j,Bool.true_or,if_true,List.eraseP_cons_of_pos j,Bk,Ac]
     |false=>
      rw[BS,BX h (by omega),Q () trivial h];simp only[Lk,j,Bool.false_or,List.eraseP_cons_of_neg (show ¬isP p s[i]=true by rw[j];simp),List.take_succ_eq_append_getElem h,List.append_assoc,List.singleton_append]
    .have:i=s.length:=by omega
     subst this;rw[Cc,BS,AT,List.drop_length];rfl
 .rw[if_neg c,if_neg (by simp[c])];rfl
def FI(h:AE)(id:Int):Int:=atF (fun x:AQ=>x.Id==id) h.AG 0
theorem Ga{h:AE}(a:Bf h)(id:Int):Lw h id=some (FI h id):=by
 unfold Lw;rw[VA a.B4,AB];rfl
def uL:Ad:=⟨⟨0,0,0,0,0⟩,[],⟨[]⟩⟩
def sR:AQ:=⟨0,0,0,0,0,0,0,0,0,0⟩
theorem Ez{h:AE}{k:Int}(a:0<=k)(c:k<h.AH.length):at? h.AH k=some (h.AH.getD k.toNat uL):=by
 grind[A9]
theorem Xe{h:AE}{k:Int}(a:0<=k)(c:k<h.AG.length):at? h.AG k=some (h.AG.getD k.toNat sR):=by
 grind[A9]
theorem Q9{h:AE}{id:Int}(a:0<=FI h id):FI h id<h.AG.length/\(h.AG.getD (FI h id).toNat sR).Id=id:=by
 grind[FI,Iw]
def Jr(h:AE)(k:Int):Int:=w64 ((h.AH.getD k.toNat uL).AW.E6-(h.AH.getD k.toNat uL).AW.FP)
theorem UO{h:AE}{k:Int}(a:0<=k)(c:k<h.AH.length):xT h k=some (Jr h k):=by
 unfold xT;rw[Ez a c,AB,AB];rfl
def Ws(h:AE)(q:B9):Int:=
 if (h.AH.length:Int)<=q.AX\/(h.AH.length:Int)<=q.BY\/q.BY=q.AX then 4
 else if inB q.A5 1 h.AR.A5=false then 5
 else if h.AR.CK<=q.Ci then 6
 else if inB q.Id 1 999=false then 7
 else if 0<=FI h q.Id then 8
 else if h.AR.Room<=C2 h.AG q.AX then 9
 else if 0<=q.BY/\Jr h q.BY<q.A5 then 10
 else if 1000000<h.As then 11 else 0
theorem tI{h:AE}(a:Bf h)(q:B9):AEh h q=some (Ws h q):=by
 have j:=a.B4;have g:∀b,((h.AH.length:Int)<=q.BY->b=true)->SF h q b=some (if b=true then 4
  else if inB q.A5 1 h.AR.A5=false then 5
  else if h.AR.CK<=q.Ci then 6
  else if inB q.Id 1 999=false then 7
  else if 0<=FI h q.Id then 8
  else if h.AR.Room<=C2 h.AG q.AX then 9
  else if 0<=q.BY/\Jr h q.BY<q.A5 then 10
  else if 1000000<h.As then 11 else 0):=by
  intro b c;unfold SF eH;cases b with
  |true=>rfl|false=>
   have hF:q.BY<h.AH.length:=by
    by_cases e:(h.AH.length:Int)<=q.BY
    .cases c e
    .omega
   simp only[BS,GC,AB,BN,Bb,Bool.false_eq_true,if_false,ge_iff_le,gt_iff_lt,decide_eq_true_eq,Ga a,ND (show h.AG.length<2 ^ 58 by omega),AT];cases inB q.A5 1 h.AR.A5
   .rfl
   .grind[UO,AB]
 grind[AEh,Ws,BJ,AT]
def AKX(p:AQ)(now:Int):Bool:=p.State==2&&decide (p.CW<=now)
theorem APu(p:AQ)(now:Int):AEi p now=some (AKX p now):=by
 unfold AEi eJ AKX;rw[AT,AT,Cf]
def KH(h:AE)(id:Int):Int:=
 if FI h id<0 then 7
 else if (h.AG.getD (FI h id).toNat sR).State≠2 then 13
 else if AKX (h.AG.getD (FI h id).toNat sR) h.Now=true then 14 else 0
theorem S7{h:AE}(a:Bf h)(id:Int):AEj h id=some (KH h id):=by
 unfold AEj KH
 grind[Ga,AB,Xe,Q9,APu,Bb]
def HJ(h:AE)(q:B9):Int:=
 if inB q.Kind 1 7=false then 2
 else if KC q=false then 3
 else if q.Kind=1 then Ws h q
 else if q.Kind=2 then if FI h q.Id<0 then 7 else 0
 else if q.Kind=3 then if (h.AH.length:Int)<=q.AX then 4 else if inB q.A5 1 60=false then 5 else if Jr h q.AX<q.A5 then 12 else 0
 else if q.Kind=4\/q.Kind=5 then KH h q.Id
 else if q.Kind=6 then if 1000000<=h.Now then 15 else 0
 else if q.Kind=7 then if h.AR.Cr<=q.Id then 16 else if h.Ay.getD q.Id.toNat 0<0/\h.Az.length=0 then 17 else 0
 else 0
def verdict(h:AE)(q:B9):Int:=if Dr h=true then HJ h q else 1
theorem Gb{h:AE}(y:Bf h)(q:B9):SG h q=some (verdict h q):=by
 unfold SG verdict;rw[Hm y,AB,BN,Bb];by_cases j:Dr h=true
 .rw[if_pos j,if_pos j];unfold HJ;rw[GC,AB,BN,Bb];cases inB q.Kind 1 7
  .rfl
  .simp only[if_true,DN,if_false];rw[jS,AB,BN,Bb];cases e:KC q
   .rfl
   .simp only[if_true,DN,if_false,Bb,beq_iff_eq,AT];by_cases g:q.Kind=1
    .rw[if_pos g,if_pos g,tI y,AB]
    .rw[if_neg g,if_neg g];by_cases E:q.Kind=2
     .rw[if_pos E,if_pos E,Ga y,AB];simp only[decide_eq_true_eq];split<;>rfl
     .rw[if_neg E,if_neg E];by_cases B:q.Kind=3
      .rw[if_pos B,if_pos B];have Y:0<=q.AX:=by
        unfold KC at e;rw[if_neg g,if_neg (by omega),if_pos B]at e;simp only[AF,Rh,B8]at e;exact e.1.1
       simp only[ge_iff_le,decide_eq_true_eq,GC,AB,Bool.not_eq_true'];by_cases a:(h.AH.length:Int)<=q.AX
       .rw[if_pos a,if_pos a]
       .rw[if_neg a,if_neg a];cases inB q.A5 1 60
        .rfl
        .simp only[DN,if_false];rw[UO Y (by omega),AB];by_cases X:Jr h q.AX<q.A5<;>simp[X]<;>rfl
      .rw[if_neg B,if_neg B];unfold eK;by_cases c:q.Kind=4\/q.Kind=5
       .rw[if_pos c];rcases c with c|c
        .simp only[c,if_true,beq_self_eq_true,BP,S7 y,AB]
        .simp only[c,if_true,beq_self_eq_true,BP,S7 y,AB];rfl
       .have I:q.Kind≠4:=fun h=>c (.inl h)
        have J:q.Kind≠5:=fun h=>c (.inr h)
        rw[if_neg c,if_neg I];have O:(q.Kind==5)=false:=by simpa using J
        rw[O,BS]
        try simp only[Bb,beq_iff_eq,AT,ge_iff_le,decide_eq_true_eq]
        by_cases G:q.Kind=6
        .rw[if_pos G,if_pos G];split<;>rfl
        .rw[if_neg G,if_neg G];by_cases H:q.Kind=7
         .rw[if_pos H,if_pos H];have hR:=QC j;have hi:0<=q.Id:=by
           unfold KC at e;rw[if_neg g,if_pos (by omega)]at e;simp only[AF,Rh,B8]at e;exact e.1.1
          by_cases a:h.AR.Cr<=q.Id
          .rw[if_pos a,if_pos a]
          .rw[if_neg a,if_neg a];obtain⟨n,Z⟩:=Int.eq_ofNat_of_zero_le hi;have L:n<h.Ay.length:=by have:=hR.P1;omega
           rw[Z,A9 L,AB,Ac,A0,AU L,Option.getD_some];unfold eL Pf;simp only[Bb,AT,beq_iff_eq];by_cases Q:h.Ay[n]<0<;>by_cases S:h.Az.length=0<;>simp[Q,S]
         .rw[if_neg H,if_neg H];rfl
 .rw[if_neg j,if_neg j]
def QI(l:List Int)(k:Int):List Int:=if l.any (fun y=>y==k)=true then l else l++[k]
theorem I0{l:List Int}(a:l.length<=1048576)(k:Int):RY l k=some (QI l k):=by
 grind[lim,RY,QI,Bt,RG,AB,Bb]
def cbn(h:AE)(k:Int):Ad:=h.AH.getD k.toNat uL
def CS(h:AE)(k:Int)(c:Ad):AE:=⟨h.AR,h.Now,h.As,h.AG,h.AH.set k.toNat c,h.Az,h.Ay⟩
theorem UX{h:AE}{k:Int}(a:0<=k)(c:k<h.AH.length):cbn h k∈h.AH:=by
 grind[cbn,List.getElem?_eq_getElem,List.getElem_mem]
theorem Zr{h:AE}(e:Bf h){p:AQ}(a:0<=p.AX)(c:p.AX<h.AH.length) :
 ZM h p=some (CS h p.AX ⟨(cbn h p.AX).AW,put ltE (EL h.AR p h.Now).1 (cbn h p.AX).Row,(cbn h p.AX).Bl⟩):=by
 have hlim:lim=268435456:=rfl;have j:=e.Df;have g:=(e.Dk _ (UX a c)).1;unfold ZM;rw[XK (by omega),AB,Ez a c,AB,AB];show bd (yJ (cbn h p.AX).Row _) _=_;rw[VB (by omega),AB,AB,AB];rfl
theorem XP{h:AE}(g:Bf h){p:AQ}(a:0<=p.AX)(c:p.AX<h.AH.length) :
 eQ h p=some (CS h p.AX ⟨(l8 (cbn h p.AX).AW p.A5 1 (-1) 0 0).1,(cbn h p.AX).Row,(Tz (cbn h p.AX).Bl ⟨p.CW,p.Id⟩).1⟩):=by
 have e:=(g.Dk _ (UX a c)).2;unfold eQ;rw[Ez a c,AB,AB,jO,AB];show bd (lf (cbn h p.AX).Bl _) _=_;rw[UN e,AB,AB,AB,Bt ⟨rfl,⟨by omega,by omega⟩,trivial⟩];rfl
def gone(h:AE)(p:AQ):AE:=
 let h':AE:=⟨h.AR,h.Now,h.As,h.AG.eraseP (fun x=>x.Id==p.Id),h.AH,h.Az,h.Ay⟩
 if 0<=p.BY then CS h' p.BY ⟨(l8 (cbn h p.BY).AW p.A5 0 0 0 (-1)).1,(cbn h p.BY).Row,(cbn h p.BY).Bl⟩ else h'
theorem NH{h:AE}(e:Bf h){p:AQ}(c:p.BY<h.AH.length):T6 h p=some (gone h p):=by
 unfold T6 eS gone;rw[kH e.B4,AB,BJ];by_cases a:0<=p.BY
 .rw[if_pos a,if_pos a,Ez a c,AB,AB,Z4,AB,AB,AB,AT];rfl
 .rw[if_neg a,if_neg a,AT]
def SO(h:AE)(k n:Int):AE:=
 let h':=CS h k ⟨(l8 (cbn h k).AW n 1 0 (-1) 0).1,(cbn h k).Row,(cbn h k).Bl⟩
 ⟨h'.AR,h'.Now,h'.As,h'.AG,h'.AH,QI h.Az k,h'.Ay⟩
theorem XQ{h:AE}(e:Bf h){k:Int}(a:0<=k)(c:k<h.AH.length)(n:Int):lg h k n=some (SO h k n):=by
 unfold lg SO;rw[Ez a c,AB,AB,jP,AB,AB,AB,I0 e.todo,AB];rfl
def Kj(a b:AQ):Bool:=decide (a.Id<b.Id)
def Kw(l:List AQ)(p:AQ):List AQ:=
 if 0<=atF (fun x:AQ=>x.Id==p.Id) l 0 then l.set (atF (fun x:AQ=>x.Id==p.Id) l 0).toNat p else put Kj p l
theorem PF{l:List AQ}(c:l.length<=1048576)(p:AQ):T5 l p=some (Kw l p):=by
 have hlim:lim=268435456:=rfl;unfold T5 Kw;rw[VA c,AB,Bt (by omega),BJ,Bk];split
 .grind[atF,AQ,Iw,A9,AB]
 .rename_i e;have a:∀i:Nat,i<=l.length->R9 l p i=some (l.take i++p::l.drop i):=by
   grind[R9,CQ,Ic,Ie,Ig,Ih,H5,Ii,Ij,D7,Ku,Int.toNat_natCast,List.length_take,Bt,List.length_cons,List.length_nil,List.length_append,List.length_drop]
  refine So (lt:=Kj) some (by omega) ?_ ?_
  .intro L i h;unfold Vu R8;rw[Bw h,BP,A9 h,AB,AT,AT,a i (by omega)];rfl
  .intro L;unfold Vu R8;rw[Cc,BS,AT,BS,AT,a _ (Nat.le_refl _)];simp
def D4(r:Aa)(p:AQ)(now:Int):AQ×Bool:=
 if DL r p now=true/\p.State=2/\w64 (p.Cn+1)<r.CP then (⟨p.Id,p.AX,p.BY,p.A5,p.Ci,p.Since,p.As,1,w64 (now+r.Rest),w64 (p.Cn+1)⟩,true) else (sR,false)
theorem z8{r:Aa}(e:r.AW.length<2 ^ 62)(p:AQ)(now:Int):xK r p now=some (D4 r p now):=by
 unfold xK WD D4;rw[NF e,AB];simp only[AT,BN,Bb,ge_iff_le,decide_eq_true_eq,bne_iff_ne,ne_eq];cases DL r p now
 .rfl
 .by_cases a:p.State=2
  .by_cases c:r.CP<=w64 (p.Cn+1)
   .have:¬w64 (p.Cn+1)<r.CP:=by omega
    simp[a,c,this];rfl
   grind
  .simp[a];rfl
structure VM(n:Nat)(c:Ad):Prop where
 row:c.Row.length<=n
 UQ:c.Bl.Ag.length<=1048576
 pins:c.Bl.Ag.flatten.length<=n
structure Sm(n:Nat)(h:AE):Prop where
 Df:h.AR.AW.length<=1048576
 B4:h.AG.length<=n
 De:h.AH.length<=1048576
 Dk:∀c∈h.AH,VM n c
 todo:h.Az.length<=n
 E8:h.Ay.length<=1048576
theorem VM.mono{n m:Nat}{c:Ad}(h:VM n c)(a:n<=m):VM m c:=⟨Ar h.row a,h.UQ,Ar h.pins a⟩
theorem Sm.mono{n m:Nat}{h:AE}(a:Sm n h)(e:n<=m):Sm m h:=
 ⟨a.Df,Ar a.B4 e,a.De,fun c g=>(a.Dk c g).mono e,Ar a.todo e,a.E8⟩
theorem Sm.fit{n:Nat}{h:AE}(a:Sm n h)(e:n<=1048576):Bf h:=
 ⟨a.Df,Ar a.B4 e,a.De,fun c g=>⟨Ar (a.Dk c g).row e,(a.Dk c g).UQ,Ar (a.Dk c g).pins e⟩,Ar a.todo e,a.E8⟩
theorem Sm.cab{n:Nat}{h:AE}(a:Sm n h){k:Int}{c:Ad}(j:VM n c):Sm n (CS h k c):=by
 refine⟨a.Df,a.B4,by simpa[CS] using a.De,?_,a.todo,a.E8⟩;intro q e;rcases List.mem_or_eq_of_mem_set e with g|rfl
 .exact a.Dk _ g
 .exact j
theorem AQj(n:Nat):VM n uL:=⟨by simp[uL],by simp[uL],by simp[uL]⟩
theorem Sm.cbn{n:Nat}{h:AE}(e:Sm n h)(k:Int):VM n (cbn h k):=by
 unfold Lv.P.cbn;rw[A0];cases a:h.AH[k.toNat]? with
 |none=>exact AQj n|some c=>exact e.Dk c (List.mem_of_getElem? a)
theorem U5{α:Type}(lt:α->α->Bool)(a:α):∀l:List α,(put lt a l).length=l.length+1| []=>rfl|b::l=>by unfold put;split<;>simp[U5 lt a l]
theorem Ud{α:Type}(p:α->Bool)(l:List α):(l.eraseP p).length<=l.length:=(List.eraseP_sublist).length_le
theorem AGg{n:Nat}{c:Ad}(h:VM n c)(p:BB):(Tz c.Bl p).1.Ag.length<=1048576/\(Tz c.Bl p).1.Ag.flatten.length<=n:=by
 unfold Tz;split
 .refine⟨by simpa using h.UQ,?_⟩;rcases AV (p.At.tmod 9).toNat c.Bl.Ag.length with a|a
  .have e:c.Bl.Ag.getD (p.At.tmod 9).toNat []=c.Bl.Ag[(p.At.tmod 9).toNat]:=by rw[A0,AU a];rfl
   have g:=gG a ((c.Bl.Ag[(p.At.tmod 9).toNat]).eraseP (isP p));have j:=Ud (isP p) (c.Bl.Ag[(p.At.tmod 9).toNat]);have q:=h.pins;dsimp only;rw[e];omega
  .dsimp only;rw[List.set_eq_of_length_le a];exact h.pins
 .exact⟨h.UQ,h.pins⟩
theorem QJ(l:List Int)(k:Int):(QI l k).length<=l.length+1:=by unfold QI;split<;>simp
theorem AOQ(l:List AQ)(p:AQ):(Kw l p).length<=l.length+1:=by
 grind[Kw,U5]
theorem APk{n:Nat}{h:AE}(g:Sm n h){c:Ad}{e:Ae}{k:Int}{l:A3}(a:VM n c):Sm (n+1) (CS h k ⟨l,put ltE e c.Row,c.Bl⟩):=by
 refine(g.mono (Cl n)).cab ⟨?_,a.UQ,Ar a.pins (Cl n)⟩;rw[U5];have:=a.row;omega
theorem aa{n:Nat}{h:AE}(a:Sm n h)(p:AQ):Sm n (gone h p):=by
 have e:Sm n ⟨h.AR,h.Now,h.As,h.AG.eraseP (fun x=>x.Id==p.Id),h.AH,h.Az,h.Ay⟩:=
  ⟨a.Df,Ar (Ud _ _) a.B4,a.De,a.Dk,a.todo,a.E8⟩
 unfold gone;dsimp only;split
 .have c:=a.cbn p.BY;exact e.cab ⟨c.row,c.UQ,c.pins⟩
 .exact e
theorem yY{n:Nat}{h:AE}(g:Sm n h)(k m:Int):Sm (n+1) (SO h k m):=by
 have e:=g.cbn k;have a:=(g.cab (k:=k) (c:=⟨(l8 (Lv.P.cbn h k).AW m 1 0 (-1) 0).1,(Lv.P.cbn h k).Row,(Lv.P.cbn h k).Bl⟩) ⟨e.row,e.UQ,e.pins⟩).mono (Cl n);unfold SO;exact⟨a.Df,a.B4,a.De,a.Dk,Ar (QJ _ _) (by have:=g.todo;omega),a.E8⟩
def dropped(h:AE)(p:AQ):AE:=CS h p.AX ⟨(l8 (cbn h p.AX).AW p.A5 1 (-1) 0 0).1,(cbn h p.AX).Row,(Tz (cbn h p.AX).Bl ⟨p.CW,p.Id⟩).1⟩
theorem Nt{n:Nat}{h:AE}(c:Sm n h)(p:AQ):Sm n (dropped h p):=by
 have a:=c.cbn p.AX;have e:=AGg a ⟨p.CW,p.Id⟩;exact c.cab ⟨a.row,e.1,e.2⟩
def OI(h:AE)(l:List AQ):AE:=⟨h.AR,h.Now,h.As,l,h.AH,h.Az,h.Ay⟩
def GD(h:AE)(p:AQ):AE:=CS h p.AX ⟨(cbn h p.AX).AW,put ltE (EL h.AR p h.Now).1 (cbn h p.AX).Row,(cbn h p.AX).Bl⟩
theorem Ts{n:Nat}{h:AE}(c:Sm n h)(p:AQ):Sm (n+1) (OI h (Kw h.AG p)):=by
 have a:=c.mono (Cl n);exact⟨a.Df,Ar (AOQ _ _) (by have:=c.B4;omega),a.De,a.Dk,a.todo,a.E8⟩
def IG(h:AE)(p:AQ):AE:=
 if (D4 h.AR p h.Now).2=true then GD (OI (dropped h p) (Kw h.AG (D4 h.AR p h.Now).1)) (D4 h.AR p h.Now).1 else gone (dropped h p) p
theorem ZQ{r:Aa}{p:AQ}{now:Int}(h:(D4 r p now).2=true):(D4 r p now).1.AX=p.AX:=by
 grind[D4]
theorem AKe{n:Nat}{h:AE}(a:Sm n h)(p:AQ):Sm (n+2) (IG h p):=by
 unfold IG;split
 .exact APk (Ts (Nt a p) _) ((Ts (Nt a p) _).cbn _)
 .exact(aa (Nt a p) p).mono (by omega)
theorem UP{n:Nat}(G:n+2<=1048576){h:AE}(c:Sm n h){p:AQ}(e:0<=p.AX)(g:p.AX<h.AH.length)(y:p.BY<h.AH.length):lZ h p=some (IG h p):=by
 unfold lZ;rw[XP (c.fit (by omega)) e g,AB];have q:=Nt c p;have H:=c.Df;show bd (xK h.AR p h.Now) _=_;rw[z8 (by omega),AB,BN,Bb];unfold IG;have a:(dropped h p).AH.length=h.AH.length:=by simp[dropped,CS]
 split
 .rename_i B;have j:=ZQ B;rw[PF (by have:=c.B4;show h.AG.length<=_;omega),AB];have E:=Ts q (D4 h.AR p h.Now).1;show bd (ZM (OI (dropped h p) (Kw h.AG (D4 h.AR p h.Now).1)) _) _=_;rw[Zr (h:=OI (dropped h p) (Kw h.AG (D4 h.AR p h.Now).1)) (E.fit (by omega)) (by rw[j];exact e) (by rw[j];show p.AX<((dropped h p).AH.length:Int);rw[a];exact g),AB];rfl
 .show bd (T6 (dropped h p) p) _=_;rw[NH (q.fit (by omega)) (by rw[a];exact y),AB]
def Dm(h:AE)(l:List Int):AE:=⟨h.AR,h.Now,h.As,h.AG,h.AH,l,h.Ay⟩
def HL(h:AE)(id cabin frm size tier:Int):AQ:=⟨id,cabin,frm,size,tier,h.Now,h.As,1,0,0⟩
def Is(h:AE)(k n:Int):AE:=CS h k ⟨(l8 (cbn h k).AW n 0 0 0 1).1,(cbn h k).Row,(cbn h k).Bl⟩
def MZ(h:AE)(id cabin frm size tier:Int):AE:=
 let p:=HL h id cabin frm size tier
 let x:=GD ⟨h.AR,h.Now,w64 (h.As+1),Kw h.AG p,h.AH,h.Az,h.Ay⟩ p
 let y:=if 0<=frm then Is x frm size else x
 Dm y (QI y.Az cabin)
def Ze(h:AE)(id cabin frm size tier:Int):AE×Int:=
 if verdict h ⟨1,id,cabin,frm,size,tier⟩≠0 then (h,verdict h ⟨1,id,cabin,frm,size,tier⟩) else (MZ h id cabin frm size tier,0)
theorem AHP{h:AE}(e:Bf h){p:AQ}(a:0<=p.AX)(c:p.AX<h.AH.length):ZM h p=some (GD h p):=Zr e a c
theorem XY{h:AE}{id cabin frm size tier:Int}(a:verdict h ⟨1,id,cabin,frm,size,tier⟩=0):Dr h=true/\0<=cabin/\cabin<h.AH.length/\frm<h.AH.length:=by
 grind[verdict,HJ,KC,Rh,B8,Ws]
theorem AJB{n:Nat}(Q:n+3<=1048576){h:AE}(G:Sm n h)(id cabin frm size tier:Int):AEl h id cabin frm size tier=some (Ze h id cabin frm size tier)/\Sm (n+3) (Ze h id cabin frm size tier).1:=by
 have E:=G.fit (by omega);unfold AEl eO Ze;rw[HB E,AB,Gb E,AB];simp only[Bb,bne_iff_ne,ne_eq,BJ,ge_iff_le,AT];by_cases y:verdict h ⟨1,id,cabin,frm,size,tier⟩=0
 .obtain⟨O,I,J,L⟩:=XY y;rw[if_neg (not_not_intro y),if_neg (not_not_intro y),PF E.B4,AB];have g:Sm (n+1) (⟨h.AR,h.Now,w64 (h.As+1),Kw h.AG (HL h id cabin frm size tier),h.AH,h.Az,h.Ay⟩:AE):=by
   have j:=Ts G (HL h id cabin frm size tier);exact⟨j.Df,j.B4,j.De,j.Dk,j.todo,j.E8⟩
  have e:Sm (n+2) (GD ⟨h.AR,h.Now,w64 (h.As+1),Kw h.AG (HL h id cabin frm size tier),h.AH,h.Az,h.Ay⟩ (HL h id cabin frm size tier)):=APk g (g.cbn _);show bd (ZM ⟨h.AR,h.Now,w64 (h.As+1),Kw h.AG (HL h id cabin frm size tier),h.AH,h.Az,h.Ay⟩ (HL h id cabin frm size tier)) _=_/\_;rw[AHP (g.fit (by omega)) (show 0<=(HL h id cabin frm size tier).AX from I) (show (HL h id cabin frm size tier).AX<_ from J),AB];simp only[decide_eq_true_eq];unfold MZ;dsimp only;generalize hX:GD ⟨h.AR,h.Now,w64 (h.As+1),Kw h.AG (HL h id cabin frm size tier),h.AH,h.Az,h.Ay⟩ (HL h id cabin frm size tier)=X at e ⊢;have q:X.AH.length=h.AH.length:=by rw[<-hX];simp[GD,CS]
  by_cases c:0<=frm
  .rw[if_pos c,if_pos c,Ez c (by rw[q];exact L),AB,AB,kJ,AB,AB,AB,I0 (by have:=e.todo;show X.Az.length<=_;omega),AB];have B:=e.cbn frm;have H:Sm (n+2) (Is X frm size):=e.cab ⟨B.row,B.UQ,B.pins⟩;have a:=H.mono (Cl (n+2));exact⟨rfl,a.Df,a.B4,a.De,a.Dk,Ar (QJ _ _) (by have:=H.todo;omega),a.E8⟩
  .rw[if_neg c,if_neg c];show bd (RY X.Az cabin) _=_/\_;rw[I0 (by have:=e.todo;omega),AB];have a:=e.mono (Cl (n+2));exact⟨rfl,a.Df,a.B4,a.De,a.Dk,Ar (QJ _ _) (by have:=e.todo;omega),a.E8⟩
 .rw[if_pos y,if_pos y];exact⟨rfl,G.mono (by omega)⟩
def par(h:AE)(id:Int):AQ:=h.AG.getD (FI h id).toNat sR
theorem jA{h:AE}(e:Dr h=true){id:Int}(c:0<=FI h id):0<=(par h id).AX/\(par h id).AX<h.AH.length /\ -1<=(par h id).BY/\(par h id).BY<h.AH.length/\(par h id).Id=id:=by
 have hR:=QC e;obtain⟨y,B⟩:=Q9 c;have hi:(FI h id).toNat<h.AG.length:=by omega
 have a:=hR.par _ hi;have j:par h id=h.AG[(FI h id).toNat]:=by unfold par;rw[A0,AU hi];rfl
 rw[<-j]at a;unfold DL at a;have E:=hR.Df;simp only[AF,B8]at a;obtain⟨_,_,_,g,q,_⟩:=a;rw[A4 (by omega) (by omega)]at g q;have:=hR.De
 grind
def ZR(h:AE)(k n:Int):AE×Int:=
 if verdict h ⟨3,0,k,0,n,0⟩≠0 then (h,verdict h ⟨3,0,k,0,n,0⟩) else (SO h k n,0)
theorem RN{h:AE}{k n:Int}(a:verdict h ⟨3,0,k,0,n,0⟩=0):Dr h=true/\0<=k/\k<h.AH.length:=by
 grind[verdict,HJ,KC,Rh,B8]
theorem jM{m:Nat}(y:m+1<=1048576){h:AE}(e:Sm m h)(k n:Int):AEr h k n=some (ZR h k n)/\Sm (m+1) (ZR h k n).1:=by
 have c:=e.fit (by omega);unfold AEr ZR;rw[HB c,AB,Gb c,AB];simp only[Bb,bne_iff_ne,ne_eq];by_cases a:verdict h ⟨3,0,k,0,n,0⟩=0
 .obtain⟨q,g,j⟩:=RN a
  grind[XQ,AB,yY]
 .rw[if_pos a,if_pos a];exact⟨rfl,e.mono (by omega)⟩
end Lv.P
