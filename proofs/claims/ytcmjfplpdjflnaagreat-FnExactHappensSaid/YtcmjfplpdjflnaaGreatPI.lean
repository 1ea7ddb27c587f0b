/- Plain laws about what the program computes. -/
import Derived.Test.YtcmjfplpdjflnaaGreatKE
import Derived.Test.YtcmjfplpdjflnaaGreatPF
noncomputable section
set_option linter.unusedVariables false
set_option linter.unusedSimpArgs false
set_option linter.unusedSectionVars false
open Bool renaming and_eq_true->AE,true_eq_false->DZ
open Int renaming toNat_natCast->Aa
open List renaming any_cons->K4,getD_eq_getElem?_getD->BP,getElem?_eq_getElem->AV,length_take->Bb,nil_append->B5
open Nat renaming le_succ->Cz,le_trans->A1,lt_or_ge->Ab
namespace Lv.P
open Lv Go
theorem IU{α:Type}(p:α->Bool):∀(l:List α) (s:Nat),(atF p l s = -1/\l.eraseP p=l/\l.any p=false) \/
 ∃k,∃h:k<l.length,atF p l s=((s+k:Nat):Int)/\l.eraseP p=l.take k++l.drop (k+1)/\l.any p=true/\p l[k]=true
 | [],s=>.inl ⟨rfl,rfl,rfl⟩|x::l,s=>by
  by_cases h:p x=true
  .grind[atF]
  .have g:p x=false:=by simpa using h
   rcases IU p l (s+1) with ⟨a,c,e⟩|⟨k,q,a,c,e,j⟩
   .grind[atF]
   grind[atF]
theorem TI{l:List Ad}(a:l.length<=1048576)(id:Int):fw l id=some (l.eraseP (fun x=>x.Id==id),l.any fun x=>x.Id==id):=by
 grind[lim,fw,QB,AB,BH,IU,Ru,Aq,B4]
theorem UE{l:List AM}(a:l.length<=1048576)(id:Int):ng l id=some (atF (fun x=>x.Id==id) l 0):=by
 grind[ng,PR,z5,BL,BG,AB,zy,BO,AU]
theorem l9{l:List AM}(g:l.length<=1048576)(id:Int):AIa l id=some (l.eraseP (fun x=>x.Id==id)):=by
 have hlim:lim=268435456:=rfl;unfold AIa;rw[UE g,AB,BH];rcases IU (fun x:AM=>x.Id==id) l 0 with ⟨a,c,e⟩|⟨k,h,a,c,e,_⟩
 .grind[B4]
 grind[Aq,B4]
def l8(l:BJ)(n a b c d:Int):BJ×Bool:=
 let l':BJ:=⟨l.Total,w64 (l.DY+w64 (a*n)),w64 (l.EZ+w64 (b*n)),w64 (l.FM+w64 (c*n)),w64 (l.Fa+w64 (d*n))⟩
 if FE l=true/\inB n 0 60=true/\FE l'=true then (l',true) else (l,false)
theorem Jh(l:BJ)(n a b c d:Int):Vd l n a b c d=some (l8 l n a b c d):=by
 unfold Vd fq l8
 grind[TH,GL,AB,AU,CJ]
theorem mB(l:BJ)(n:Int):AIX l n=some (l8 l n 0 0 0 1):=by unfold AIX;rw[Jh,AB]
theorem Z8(l:BJ)(n:Int):AIb l n=some (l8 l n 0 0 0 (-1)):=by unfold AIb;rw[Jh,AB]
theorem kv(l:BJ)(n:Int):AAM l n=some (l8 l n (-1) 1 0 0):=by unfold AAM;rw[Jh,AB]
theorem kr(l:BJ)(n:Int):AIZ l n=some (l8 l n 1 (-1) 0 0):=by unfold AIZ;rw[Jh,AB]
theorem kx(l:BJ)(n:Int):AIf l n=some (l8 l n 0 (-1) 1 0):=by unfold AIf;rw[Jh,AB]
theorem ku(l:BJ)(n:Int):AId l n=some (l8 l n 1 0 (-1) 0):=by unfold AId;rw[Jh,AB]
def isP(p:A7)(x:A7):Bool:=x.At==p.At&&(x.Id==p.Id&&true)
def Sl(w:Av)(p:A7):Av×Bool:=
 if Ht w=true/\1<=p.At then (⟨w.An.set (p.At.tmod 9).toNat ((w.An.getD (p.At.tmod 9).toNat []).eraseP (isP p))⟩,(w.An.getD (p.At.tmod 9).toNat []).any (isP p)) else (w,false)
theorem TL{w:Av}(q:DP w)(p:A7):nh w p=some (Sl w p):=by
 have hlim:lim=268435456:=rfl;have J:=q.1;have y:=q.2;unfold nh Sl;rw[SB q,AB,KA q,AB,BK,AU,AU,CJ];by_cases c:Ht w=true
 .rw[AW c];unfold fu;rw[BH];by_cases E:p.At<1
  .rw[AW E,AT (by omega)]
  .rw[AT E,AW ⟨c,by omega⟩];obtain⟨m,S,e⟩:=Zy (n:=p.At) (by omega);have hW:=Dq.1 c;have a:m<w.An.length:=by have:=hW.1;omega
   have I:w.An[m].length<=1048576:=A1 (IY a) y;rw[e,Aa];have H:w.An.getD m []=w.An[m]:=by rw[BP,AV a];rfl
   rw[H];generalize g:w.An[m]=s at I ⊢;have key:=DA (F:=Ve w p w) (n:=s.length) (fun i (_:Unit)=>(i:Int)) (fun _ _=>True)
    (fun i _=>some (if (s.drop i).any (isP p)=true then ((⟨w.An.set m (s.take i++(s.drop i).eraseP (isP p))⟩:Av),true) else (w,false))) (by omega) ?_ (v:=()) trivial
   .have key':A3 (Ve w p w) big 0=_:=key;rw[key'];simp only[List.drop_zero,List.take_zero,B5];split
    .rename_i h;rw[h]
    .rename_i h;have B:s.any (isP p)=false:=by simpa using h
     have G:s.eraseP (isP p)=s:=List.eraseP_of_forall_not fun x O=>by
      have:=List.any_eq_false.1 B x O;simpa using this
     rw[B,G,<-g,List.set_getElem_self]
   .intro L i _ _ hi Q;unfold Ve AAO;rw[e,BG a,AB,g];rcases Ab i s.length with h|h
    .rw[B6 h,BL];simp only[AB,BG h,Aa];rw[DR h];show br (isP p s[i]) _ _=_;cases j:isP p s[i] with
     |true=>
      rw[BL,Bp h (by omega),B4 ⟨by omega,by omega⟩,B4 ⟨by omega,by omega⟩,B4 (by rw[Bb];simp;omega),B4 (by rw[List.length_append,Bb];simp;omega)];simp only[K4,j,Bool.true_or,if_true,List.eraseP_cons_of_pos j,B5,Aa]
     |false=>
      rw[BO,Bp h (by omega),Q () trivial h];simp only[K4,j,Bool.false_or,List.eraseP_cons_of_neg (show ¬isP p s[i]=true by rw[j];simp),List.take_succ_eq_append_getElem h,List.append_assoc,List.singleton_append]
    .have:i=s.length:=by omega
     subst this;rw[C5,BO,AU,List.drop_length];rfl
 .rw[AT c,AT (by simp[c])];rfl
def Fv(h:AF)(id:Int):Int:=atF (fun x:AM=>x.Id==id) h.AG 0
theorem Gi{h:AF}(a:By h)(id:Int):LF h id=some (Fv h id):=by
 unfold LF;rw[UE a.CN,AB];rfl
def vr:AX:=⟨⟨0,0,0,0,0⟩,[],⟨[]⟩⟩
def uF:AM:=⟨0,0,0,0,0,0,0,0,0,0⟩
theorem FF{h:AF}{k:Int}(a:0<=k)(c:k<h.AH.length):at? h.AH k=some (h.AH.getD k.toNat vr):=by
 grind[BG]
theorem XG{h:AF}{k:Int}(a:0<=k)(c:k<h.AG.length):at? h.AG k=some (h.AG.getD k.toNat uF):=by
 grind[BG]
theorem P4{h:AF}{id:Int}(a:0<=Fv h id):Fv h id<h.AG.length/\(h.AG.getD (Fv h id).toNat uF).Id=id:=by
 grind[Fv,IU]
def JL(h:AF)(k:Int):Int:=w64 ((h.AH.getD k.toNat vr).AZ.FM-(h.AH.getD k.toNat vr).AZ.Fa)
theorem TN{h:AF}{k:Int}(a:0<=k)(c:k<h.AH.length):AAN h k=some (JL h k):=by
 unfold AAN;rw[FF a c,AB,AB];rfl
def WM(h:AF)(q:Bo):Int:=
 if (h.AH.length:Int)<=q.AY\/(h.AH.length:Int)<=q.Bk\/q.Bk=q.AY then 4
 else if inB q.BB 1 h.AQ.BB=false then 5
 else if h.AQ.Ce<=q.Cv then 6
 else if inB q.Id 1 999=false then 7
 else if 0<=Fv h q.Id then 8
 else if h.AQ.Room<=DG h.AG q.AY then 9
 else if 0<=q.Bk/\JL h q.Bk<q.BB then 10
 else if 1000000<h.Ay then 11 else 0
theorem uy{h:AF}(a:By h)(q:Bo):AIU h q=some (WM h q):=by
 have j:=a.CN;have g:∀b,((h.AH.length:Int)<=q.Bk->b=true)->Q1 h q b=some (if b=true then 4
  else if inB q.BB 1 h.AQ.BB=false then 5
  else if h.AQ.Ce<=q.Cv then 6
  else if inB q.Id 1 999=false then 7
  else if 0<=Fv h q.Id then 8
  else if h.AQ.Room<=DG h.AG q.AY then 9
  else if 0<=q.Bk/\JL h q.Bk<q.BB then 10
  else if 1000000<h.Ay then 11 else 0):=by
  intro b c;unfold Q1 fh;cases b with
  |true=>rfl|false=>
   have hF:q.Bk<h.AH.length:=by
    by_cases e:(h.AH.length:Int)<=q.Bk
    .cases c e
    .omega
   simp only[BO,GL,AB,BK,CJ,Bool.false_eq_true,if_false,ge_iff_le,gt_iff_lt,decide_eq_true_eq,Gi a,P9 (show h.AG.length<2 ^ 58 by omega),AU];cases inB q.BB 1 h.AQ.BB
   .rfl
   .grind[TN,AB]
 grind[AIU,WM,BH,AU]
def AO5(p:AM)(now:Int):Bool:=p.State==2&&decide (p.Cq<=now)
theorem AVN(p:AM)(now:Int):AIV p now=some (AO5 p now):=by
 unfold AIV fj AO5;rw[AU,AU,Cr]
def Jo(h:AF)(id:Int):Int:=
 if Fv h id<0 then 7
 else if (h.AG.getD (Fv h id).toNat uF).State≠2 then 13
 else if AO5 (h.AG.getD (Fv h id).toNat uF) h.Now=true then 14 else 0
theorem Rt{h:AF}(a:By h)(id:Int):AIW h id=some (Jo h id):=by
 unfold AIW Jo
 grind[Gi,AB,XG,P4,AVN,CJ]
def HL(h:AF)(q:Bo):Int:=
 if inB q.Kind 1 7=false then 2
 else if KE q=false then 3
 else if q.Kind=1 then WM h q
 else if q.Kind=2 then if Fv h q.Id<0 then 7 else 0
 else if q.Kind=3 then if (h.AH.length:Int)<=q.AY then 4 else if inB q.BB 1 60=false then 5 else if JL h q.AY<q.BB then 12 else 0
 else if q.Kind=4\/q.Kind=5 then Jo h q.Id
 else if q.Kind=6 then if 1000000<=h.Now then 15 else 0
 else if q.Kind=7 then if h.AQ.C3<=q.Id then 16 else if h.BC.getD q.Id.toNat 0<0/\h.BE.length=0 then 17 else 0
 else 0
def verdict(h:AF)(q:Bo):Int:=if D6 h=true then HL h q else 1
theorem Gj{h:AF}(y:By h)(q:Bo):Q2 h q=some (verdict h q):=by
 unfold Q2 verdict;rw[IW y,AB,BK,CJ];by_cases j:D6 h=true
 .rw[AW j,AW j];unfold HL;rw[GL,AB,BK,CJ];cases inB q.Kind 1 7
  .rfl
  .simp only[if_true,DZ,if_false];rw[ky,AB,BK,CJ];cases e:KE q
   .rfl
   .simp only[if_true,DZ,if_false,CJ,beq_iff_eq,AU];by_cases g:q.Kind=1
    .rw[AW g,AW g,uy y,AB]
    .rw[AT g,AT g];by_cases E:q.Kind=2
     .rw[AW E,AW E,Gi y,AB];simp only[decide_eq_true_eq];split<;>rfl
     .rw[AT E,AT E];by_cases B:q.Kind=3
      .rw[AW B,AW B];have Y:0<=q.AY:=by
        unfold KE at e;rw[AT g,AT (by omega),AW B]at e;simp only[AE,QX,CQ]at e;exact e.1.1
       simp only[ge_iff_le,decide_eq_true_eq,GL,AB,Bool.not_eq_true'];by_cases a:(h.AH.length:Int)<=q.AY
       .rw[AW a,AW a]
       .rw[AT a,AT a];cases inB q.BB 1 60
        .rfl
        .simp only[DZ,if_false];rw[TN Y (by omega),AB];by_cases X:JL h q.AY<q.BB<;>simp[X]<;>rfl
      .rw[AT B,AT B];unfold fk;by_cases c:q.Kind=4\/q.Kind=5
       .rw[AW c];rcases c with c|c
        .simp only[c,if_true,beq_self_eq_true,BL,Rt y,AB]
        .simp only[c,if_true,beq_self_eq_true,BL,Rt y,AB];rfl
       .have I:q.Kind≠4:=fun h=>c (.inl h)
        have J:q.Kind≠5:=fun h=>c (.inr h)
        rw[AT c,AT I];have O:(q.Kind==5)=false:=by simpa using J
        rw[O,BO]
        try simp only[CJ,beq_iff_eq,AU,ge_iff_le,decide_eq_true_eq]
        by_cases G:q.Kind=6
        .rw[AW G,AW G];split<;>rfl
        .rw[AT G,AT G];by_cases H:q.Kind=7
         .rw[AW H,AW H];have hR:=O7 j;have hi:0<=q.Id:=by
           unfold KE at e;rw[AT g,AW (by omega)]at e;simp only[AE,QX,CQ]at e;exact e.1.1
          by_cases a:h.AQ.C3<=q.Id
          .rw[AW a,AW a]
          .rw[AT a,AT a];obtain⟨n,Z⟩:=Int.eq_ofNat_of_zero_le hi;have L:n<h.BC.length:=by have:=hR.Rb;omega
           rw[Z,BG L,AB,Aa,BP,AV L,Option.getD_some];unfold fm Oa;simp only[CJ,AU,beq_iff_eq];by_cases Q:h.BC[n]<0<;>by_cases S:h.BE.length=0<;>simp[Q,S]
         .rw[AT H,AT H];rfl
 .rw[AT j,AT j]
def Qa(l:List Int)(k:Int):List Int:=if l.any (fun y=>y==k)=true then l else l++[k]
theorem IX{l:List Int}(a:l.length<=1048576)(k:Int):VY l k=some (Qa l k):=by
 grind[lim,VY,Qa,B4,UF,AB,CJ]
def cbn(h:AF)(k:Int):AX:=h.AH.getD k.toNat vr
def Cu(h:AF)(k:Int)(c:AX):AF:=⟨h.AQ,h.Now,h.Ay,h.AG,h.AH.set k.toNat c,h.BE,h.BC⟩
theorem TV{h:AF}{k:Int}(a:0<=k)(c:k<h.AH.length):cbn h k∈h.AH:=by
 grind[cbn,List.getElem?_eq_getElem,List.getElem_mem]
theorem Zt{h:AF}(e:By h){p:AM}(a:0<=p.AY)(c:p.AY<h.AH.length) :
 ZJ h p=some (Cu h p.AY ⟨(cbn h p.AY).AZ,put ltE (EX h.AQ p h.Now).1 (cbn h p.AY).Row,(cbn h p.AY).Bq⟩):=by
 have hlim:lim=268435456:=rfl;have j:=e.Dr;have g:=(e.Dw _ (TV a c)).1;unfold ZJ;rw[Wt (by omega),AB,FF a c,AB,AB];show bd (bZ (cbn h p.AY).Row _) _=_;rw[lA (by omega),AB,AB,AB];rfl
theorem Wv{h:AF}(g:By h){p:AM}(a:0<=p.AY)(c:p.AY<h.AH.length) :
 fv h p=some (Cu h p.AY ⟨(l8 (cbn h p.AY).AZ p.BB 1 (-1) 0 0).1,(cbn h p.AY).Row,(Sl (cbn h p.AY).Bq ⟨p.Cq,p.Id⟩).1⟩):=by
 have e:=(g.Dw _ (TV a c)).2;unfold fv;rw[FF a c,AB,AB,kr,AB];show bd (nh (cbn h p.AY).Bq _) _=_;rw[TL e,AB,AB,AB,B4 ⟨rfl,⟨by omega,by omega⟩,trivial⟩];rfl
def gone(h:AF)(p:AM):AF:=
 let h':AF:=⟨h.AQ,h.Now,h.Ay,h.AG.eraseP (fun x=>x.Id==p.Id),h.AH,h.BE,h.BC⟩
 if 0<=p.Bk then Cu h' p.Bk ⟨(l8 (cbn h p.Bk).AZ p.BB 0 0 0 (-1)).1,(cbn h p.Bk).Row,(cbn h p.Bk).Bq⟩ else h'
theorem MQ{h:AF}(e:By h){p:AM}(c:p.Bk<h.AH.length):Su h p=some (gone h p):=by
 unfold Su fx gone;rw[l9 e.CN,AB,BH];by_cases a:0<=p.Bk
 .rw[AW a,AW a,FF a c,AB,AB,Z8,AB,AB,AB,AU];rfl
 .rw[AT a,AT a,AU]
def Sw(h:AF)(k n:Int):AF:=
 let h':=Cu h k ⟨(l8 (cbn h k).AZ n 1 0 (-1) 0).1,(cbn h k).Row,(cbn h k).Bq⟩
 ⟨h'.AQ,h'.Now,h'.Ay,h'.AG,h'.AH,Qa h.BE k,h'.BC⟩
theorem Ww{h:AF}(e:By h){k:Int}(a:0<=k)(c:k<h.AH.length)(n:Int):ni h k n=some (Sw h k n):=by
 unfold ni Sw;rw[FF a c,AB,AB,ku,AB,AB,AB,IX e.todo,AB];rfl
def J1(a b:AM):Bool:=decide (a.Id<b.Id)
def KF(l:List AM)(p:AM):List AM:=
 if 0<=atF (fun x:AM=>x.Id==p.Id) l 0 then l.set (atF (fun x:AM=>x.Id==p.Id) l 0).toNat p else put J1 p l
theorem N6{l:List AM}(c:l.length<=1048576)(p:AM):eu l p=some (KF l p):=by
 have hlim:lim=268435456:=rfl;unfold eu KF;rw[UE c,AB,B4 (by omega),BH,B5];split
 .grind[atF,AM,IU,BG,AB]
 .rename_i e;have a:∀i:Nat,i<=l.length->fA l p i=some (l.take i++p::l.drop i):=by
   grind[fA,Ch,KX,KY,KZ,Ka,Jw,Kb,Kc,Fl,vN,Int.toNat_natCast,List.length_take,B4,List.length_cons,List.length_nil,List.length_append,List.length_drop]
  refine Ri (lt:=J1) some (by omega) ?_ ?_
  .intro L i h;unfold fB VX;rw[B6 h,BL,BG h,AB,AU,AU,a i (by omega)];rfl
  .intro L;unfold fB VX;rw[C5,BO,AU,BO,AU,a _ (Nat.le_refl _)];simp
def EG(r:Ae)(p:AM)(now:Int):AM×Bool:=
 if Dn r p now=true/\p.State=2/\w64 (p.DB+1)<r.Cd then (⟨p.Id,p.AY,p.Bk,p.BB,p.Cv,p.Since,p.Ay,1,w64 (now+r.Rest),w64 (p.DB+1)⟩,true) else (uF,false)
theorem ACo{r:Ae}(e:r.AZ.length<2 ^ 62)(p:AM)(now:Int):AAP r p now=some (EG r p now):=by
 unfold AAP Vg EG;rw[MP e,AB];simp only[AU,BK,CJ,ge_iff_le,decide_eq_true_eq,bne_iff_ne,ne_eq];cases Dn r p now
 .rfl
 .by_cases a:p.State=2
  .by_cases c:r.Cd<=w64 (p.DB+1)
   .have:¬w64 (p.DB+1)<r.Cd:=by omega
    simp[a,c,this];rfl
   grind
  .simp[a];rfl
structure UO(n:Nat)(c:AX):Prop where
 row:c.Row.length<=n
 TP:c.Bq.An.length<=1048576
 pins:c.Bq.An.flatten.length<=n
structure Sm(n:Nat)(h:AF):Prop where
 Dr:h.AQ.AZ.length<=1048576
 CN:h.AG.length<=n
 EN:h.AH.length<=1048576
 Dw:∀c∈h.AH,UO n c
 todo:h.BE.length<=n
 F5:h.BC.length<=1048576
theorem UO.mono{n m:Nat}{c:AX}(h:UO n c)(a:n<=m):UO m c:=⟨A1 h.row a,h.TP,A1 h.pins a⟩
theorem Sm.mono{n m:Nat}{h:AF}(a:Sm n h)(e:n<=m):Sm m h:=
 ⟨a.Dr,A1 a.CN e,a.EN,fun c g=>(a.Dw c g).mono e,A1 a.todo e,a.F5⟩
theorem Sm.fit{n:Nat}{h:AF}(a:Sm n h)(e:n<=1048576):By h:=
 ⟨a.Dr,A1 a.CN e,a.EN,fun c g=>⟨A1 (a.Dw c g).row e,(a.Dw c g).TP,A1 (a.Dw c g).pins e⟩,A1 a.todo e,a.F5⟩
theorem Sm.cab{n:Nat}{h:AF}(a:Sm n h){k:Int}{c:AX}(j:UO n c):Sm n (Cu h k c):=by
 refine⟨a.Dr,a.CN,by simpa[Cu] using a.EN,?_,a.todo,a.F5⟩;intro q e;rcases List.mem_or_eq_of_mem_set e with g|rfl
 .exact a.Dw _ g
 .exact j
theorem AWF(n:Nat):UO n vr:=⟨by simp[vr],by simp[vr],by simp[vr]⟩
theorem Sm.cbn{n:Nat}{h:AF}(e:Sm n h)(k:Int):UO n (cbn h k):=by
 unfold Lv.P.cbn;rw[BP];cases a:h.AH[k.toNat]? with
 |none=>exact AWF n|some c=>exact e.Dw c (List.mem_of_getElem? a)
theorem UA{α:Type}(lt:α->α->Bool)(a:α):∀l:List α,(put lt a l).length=l.length+1| []=>rfl|b::l=>by unfold put;split<;>simp[UA lt a l]
theorem Tc{α:Type}(p:α->Bool)(l:List α):(l.eraseP p).length<=l.length:=(List.eraseP_sublist).length_le
theorem AKb{n:Nat}{c:AX}(h:UO n c)(p:A7):(Sl c.Bq p).1.An.length<=1048576/\(Sl c.Bq p).1.An.flatten.length<=n:=by
 unfold Sl;split
 .refine⟨by simpa using h.TP,?_⟩;rcases Ab (p.At.tmod 9).toNat c.Bq.An.length with a|a
  .have e:c.Bq.An.getD (p.At.tmod 9).toNat []=c.Bq.An[(p.At.tmod 9).toNat]:=by rw[BP,AV a];rfl
   have g:=ABK a ((c.Bq.An[(p.At.tmod 9).toNat]).eraseP (isP p));have j:=Tc (isP p) (c.Bq.An[(p.At.tmod 9).toNat]);have q:=h.pins;dsimp only;rw[e];omega
  .dsimp only;rw[List.set_eq_of_length_le a];exact h.pins
 .exact⟨h.TP,h.pins⟩
theorem PG(l:List Int)(k:Int):(Qa l k).length<=l.length+1:=by unfold Qa;split<;>simp
theorem ATr(l:List AM)(p:AM):(KF l p).length<=l.length+1:=by
 grind[KF,UA]
theorem AVD{n:Nat}{h:AF}(g:Sm n h){c:AX}{e:Ad}{k:Int}{l:BJ}(a:UO n c):Sm (n+1) (Cu h k ⟨l,put ltE e c.Row,c.Bq⟩):=by
 refine(g.mono (Cz n)).cab ⟨?_,a.TP,A1 a.pins (Cz n)⟩;rw[UA];have:=a.row;omega
theorem aO{n:Nat}{h:AF}(a:Sm n h)(p:AM):Sm n (gone h p):=by
 have e:Sm n ⟨h.AQ,h.Now,h.Ay,h.AG.eraseP (fun x=>x.Id==p.Id),h.AH,h.BE,h.BC⟩:=
  ⟨a.Dr,A1 (Tc _ _) a.CN,a.EN,a.Dw,a.todo,a.F5⟩
 unfold gone;dsimp only;split
 .have c:=a.cbn p.Bk;exact e.cab ⟨c.row,c.TP,c.pins⟩
 .exact e
theorem ABN{n:Nat}{h:AF}(g:Sm n h)(k m:Int):Sm (n+1) (Sw h k m):=by
 have e:=g.cbn k;have a:=(g.cab (k:=k) (c:=⟨(l8 (Lv.P.cbn h k).AZ m 1 0 (-1) 0).1,(Lv.P.cbn h k).Row,(Lv.P.cbn h k).Bq⟩) ⟨e.row,e.TP,e.pins⟩).mono (Cz n);unfold Sw;exact⟨a.Dr,a.CN,a.EN,a.Dw,A1 (PG _ _) (by have:=g.todo;omega),a.F5⟩
def dropped(h:AF)(p:AM):AF:=Cu h p.AY ⟨(l8 (cbn h p.AY).AZ p.BB 1 (-1) 0 0).1,(cbn h p.AY).Row,(Sl (cbn h p.AY).Bq ⟨p.Cq,p.Id⟩).1⟩
theorem Mw{n:Nat}{h:AF}(c:Sm n h)(p:AM):Sm n (dropped h p):=by
 have a:=c.cbn p.AY;have e:=AKb a ⟨p.Cq,p.Id⟩;exact c.cab ⟨a.row,e.1,e.2⟩
def NL(h:AF)(l:List AM):AF:=⟨h.AQ,h.Now,h.Ay,l,h.AH,h.BE,h.BC⟩
def GM(h:AF)(p:AM):AF:=Cu h p.AY ⟨(cbn h p.AY).AZ,put ltE (EX h.AQ p h.Now).1 (cbn h p.AY).Row,(cbn h p.AY).Bq⟩
theorem Sg{n:Nat}{h:AF}(c:Sm n h)(p:AM):Sm (n+1) (NL h (KF h.AG p)):=by
 have a:=c.mono (Cz n);exact⟨a.Dr,A1 (ATr _ _) (by have:=c.CN;omega),a.EN,a.Dw,a.todo,a.F5⟩
def Hw(h:AF)(p:AM):AF:=
 if (EG h.AQ p h.Now).2=true then GM (NL (dropped h p) (KF h.AG (EG h.AQ p h.Now).1)) (EG h.AQ p h.Now).1 else gone (dropped h p) p
theorem ZP{r:Ae}{p:AM}{now:Int}(h:(EG r p now).2=true):(EG r p now).1.AY=p.AY:=by
 grind[EG]
theorem APD{n:Nat}{h:AF}(a:Sm n h)(p:AM):Sm (n+2) (Hw h p):=by
 unfold Hw;split
 .exact AVD (Sg (Mw a p) _) ((Sg (Mw a p) _).cbn _)
 .exact(aO (Mw a p) p).mono (by omega)
theorem TO{n:Nat}(G:n+2<=1048576){h:AF}(c:Sm n h){p:AM}(e:0<=p.AY)(g:p.AY<h.AH.length)(y:p.Bk<h.AH.length):nj h p=some (Hw h p):=by
 unfold nj;rw[Wv (c.fit (by omega)) e g,AB];have q:=Mw c p;have H:=c.Dr;show bd (AAP h.AQ p h.Now) _=_;rw[ACo (by omega),AB,BK,CJ];unfold Hw;have a:(dropped h p).AH.length=h.AH.length:=by simp[dropped,Cu]
 split
 .rename_i B;have j:=ZP B;rw[N6 (by have:=c.CN;show h.AG.length<=_;omega),AB];have E:=Sg q (EG h.AQ p h.Now).1;show bd (ZJ (NL (dropped h p) (KF h.AG (EG h.AQ p h.Now).1)) _) _=_;rw[Zt (h:=NL (dropped h p) (KF h.AG (EG h.AQ p h.Now).1)) (E.fit (by omega)) (by rw[j];exact e) (by rw[j];show p.AY<((dropped h p).AH.length:Int);rw[a];exact g),AB];rfl
 .show bd (Su (dropped h p) p) _=_;rw[MQ (q.fit (by omega)) (by rw[a];exact y),AB]
def El(h:AF)(l:List Int):AF:=⟨h.AQ,h.Now,h.Ay,h.AG,h.AH,l,h.BC⟩
def HN(h:AF)(id cabin frm size tier:Int):AM:=⟨id,cabin,frm,size,tier,h.Now,h.Ay,1,0,0⟩
def JN(h:AF)(k n:Int):AF:=Cu h k ⟨(l8 (cbn h k).AZ n 0 0 0 1).1,(cbn h k).Row,(cbn h k).Bq⟩
def La(h:AF)(id cabin frm size tier:Int):AF:=
 let p:=HN h id cabin frm size tier
 let x:=GM ⟨h.AQ,h.Now,w64 (h.Ay+1),KF h.AG p,h.AH,h.BE,h.BC⟩ p
 let y:=if 0<=frm then JN x frm size else x
 El y (Qa y.BE cabin)
def jV(h:AF)(id cabin frm size tier:Int):AF×Int:=
 if verdict h ⟨1,id,cabin,frm,size,tier⟩≠0 then (h,verdict h ⟨1,id,cabin,frm,size,tier⟩) else (La h id cabin frm size tier,0)
theorem ALT{h:AF}(e:By h){p:AM}(a:0<=p.AY)(c:p.AY<h.AH.length):ZJ h p=some (GM h p):=Zt e a c
theorem W7{h:AF}{id cabin frm size tier:Int}(a:verdict h ⟨1,id,cabin,frm,size,tier⟩=0):D6 h=true/\0<=cabin/\cabin<h.AH.length/\frm<h.AH.length:=by
 grind[verdict,HL,KE,QX,CQ,WM]
theorem ANR{n:Nat}(Q:n+3<=1048576){h:AF}(G:Sm n h)(id cabin frm size tier:Int):AIY h id cabin frm size tier=some (jV h id cabin frm size tier)/\Sm (n+3) (jV h id cabin frm size tier).1:=by
 have E:=G.fit (by omega);unfold AIY ft jV;rw[HF E,AB,Gj E,AB];simp only[CJ,bne_iff_ne,ne_eq,BH,ge_iff_le,AU];by_cases y:verdict h ⟨1,id,cabin,frm,size,tier⟩=0
 .obtain⟨O,I,J,L⟩:=W7 y;rw[AT (not_not_intro y),AT (not_not_intro y),N6 E.CN,AB];have g:Sm (n+1) (⟨h.AQ,h.Now,w64 (h.Ay+1),KF h.AG (HN h id cabin frm size tier),h.AH,h.BE,h.BC⟩:AF):=by
   have j:=Sg G (HN h id cabin frm size tier);exact⟨j.Dr,j.CN,j.EN,j.Dw,j.todo,j.F5⟩
  have e:Sm (n+2) (GM ⟨h.AQ,h.Now,w64 (h.Ay+1),KF h.AG (HN h id cabin frm size tier),h.AH,h.BE,h.BC⟩ (HN h id cabin frm size tier)):=AVD g (g.cbn _);show bd (ZJ ⟨h.AQ,h.Now,w64 (h.Ay+1),KF h.AG (HN h id cabin frm size tier),h.AH,h.BE,h.BC⟩ (HN h id cabin frm size tier)) _=_/\_;rw[ALT (g.fit (by omega)) (show 0<=(HN h id cabin frm size tier).AY from I) (show (HN h id cabin frm size tier).AY<_ from J),AB];simp only[decide_eq_true_eq];unfold La;dsimp only;generalize hX:GM ⟨h.AQ,h.Now,w64 (h.Ay+1),KF h.AG (HN h id cabin frm size tier),h.AH,h.BE,h.BC⟩ (HN h id cabin frm size tier)=X at e ⊢;have q:X.AH.length=h.AH.length:=by rw[<-hX];simp[GM,Cu]
  by_cases c:0<=frm
  .rw[AW c,AW c,FF c (by rw[q];exact L),AB,AB,mB,AB,AB,AB,IX (by have:=e.todo;show X.BE.length<=_;omega),AB];have B:=e.cbn frm;have H:Sm (n+2) (JN X frm size):=e.cab ⟨B.row,B.TP,B.pins⟩;have a:=H.mono (Cz (n+2));exact⟨rfl,a.Dr,a.CN,a.EN,a.Dw,A1 (PG _ _) (by have:=H.todo;omega),a.F5⟩
  .rw[AT c,AT c];show bd (VY X.BE cabin) _=_/\_;rw[IX (by have:=e.todo;omega),AB];have a:=e.mono (Cz (n+2));exact⟨rfl,a.Dr,a.CN,a.EN,a.Dw,A1 (PG _ _) (by have:=e.todo;omega),a.F5⟩
 .rw[AW y,AW y];exact⟨rfl,G.mono (by omega)⟩
def par(h:AF)(id:Int):AM:=h.AG.getD (Fv h id).toNat uF
theorem kV{h:AF}(e:D6 h=true){id:Int}(c:0<=Fv h id):0<=(par h id).AY/\(par h id).AY<h.AH.length /\ -1<=(par h id).Bk/\(par h id).Bk<h.AH.length/\(par h id).Id=id:=by
 have hR:=O7 e;obtain⟨y,B⟩:=P4 c;have hi:(Fv h id).toNat<h.AG.length:=by omega
 have a:=hR.par _ hi;have j:par h id=h.AG[(Fv h id).toNat]:=by unfold par;rw[BP,AV hi];rfl
 rw[<-j]at a;unfold Dn at a;have E:=hR.Dr;simp only[AE,CQ]at a;obtain⟨_,_,_,g,q,_⟩:=a;rw[Aq (by omega) (by omega)]at g q;have:=hR.EN
 grind
def ig(h:AF)(k n:Int):AF×Int:=
 if verdict h ⟨3,0,k,0,n,0⟩≠0 then (h,verdict h ⟨3,0,k,0,n,0⟩) else (Sw h k n,0)
theorem W6{h:AF}{k n:Int}(a:verdict h ⟨3,0,k,0,n,0⟩=0):D6 h=true/\0<=k/\k<h.AH.length:=by
 grind[verdict,HL,KE,QX,CQ]
theorem ko{m:Nat}(y:m+1<=1048576){h:AF}(e:Sm m h)(k n:Int):AIe h k n=some (ig h k n)/\Sm (m+1) (ig h k n).1:=by
 have c:=e.fit (by omega);unfold AIe ig;rw[HF c,AB,Gj c,AB];simp only[CJ,bne_iff_ne,ne_eq];by_cases a:verdict h ⟨3,0,k,0,n,0⟩=0
 .obtain⟨q,g,j⟩:=W6 a
  grind[Ww,AB,ABN]
 .rw[AW a,AW a];exact⟨rfl,e.mono (by omega)⟩
end Lv.P
