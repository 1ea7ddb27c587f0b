/- Plain laws about what the program computes. -/
import Derived.Test.YtnjoipcemhflkaaGreatKEb
import Derived.Test.YtnjoipcemhflkaaGreatPFb
noncomputable section
set_option linter.unusedVariables false
set_option linter.unusedSimpArgs false
set_option linter.unusedSectionVars false
open Bool renaming and_eq_true->AF,true_eq_false->Dt
open Int renaming toNat_natCast->Ac
open List renaming any_cons->Lx,getD_eq_getElem?_getD->A7,getElem?_eq_getElem->AS,length_take->BL,nil_append->CB
open Nat renaming le_succ->C4,le_trans->Av,lt_or_ge->AZ
namespace Lv.P
open Lv Go
theorem JJ{α:Type}(p:α->Bool):∀(l:List α) (s:Nat),(atF p l s = -1/\l.eraseP p=l/\l.any p=false) \/
 ∃k,∃h:k<l.length,atF p l s=((s+k:Nat):Int)/\l.eraseP p=l.take k++l.drop (k+1)/\l.any p=true/\p l[k]=true
 | [],s=>.inl ⟨rfl,rfl,rfl⟩|x::l,s=>by
  by_cases h:p x=true
  .grind[atF]
  .have g:p x=false:=by simpa using h
   rcases JJ p l (s+1) with ⟨a,c,e⟩|⟨k,q,a,c,e,j⟩
   .grind[atF]
   grind[atF]
theorem Ux{l:List Au}(a:l.length<=1048576)(id:Int):AKL l id=some (l.eraseP (fun x=>x.Id==id),l.any fun x=>x.Id==id):=by
 grind[lim,AKL,RR,AB,BQ,JJ,Tb,A2,B8]
theorem Vl{l:List AU}(a:l.length<=1048576)(id:Int):ABv l id=some (atF (fun x=>x.Id==id) l 0):=by
 grind[ABv,Qb,Af2,BP,BG,AB,iC,Bb,AV]
theorem pP{l:List AU}(g:l.length<=1048576)(id:Int):AKM l id=some (l.eraseP (fun x=>x.Id==id)):=by
 have hlim:lim=268435456:=rfl;unfold AKM;rw[Vl g,AB,BQ];rcases JJ (fun x:AU=>x.Id==id) l 0 with ⟨a,c,e⟩|⟨k,h,a,c,e,_⟩
 .grind[B8]
 grind[A2,B8]
def l8(l:BI)(n a b c d:Int):BI×Bool:=
 let l':BI:=⟨l.Total,w64 (l.Dv+w64 (a*n)),w64 (l.FA+w64 (b*n)),w64 (l.Fm+w64 (c*n)),w64 (l.F8+w64 (d*n))⟩
 if Ed l=true/\inB n 0 60=true/\Ed l'=true then (l',true) else (l,false)
theorem KS(l:BI)(n a b c d:Int):rM l n a b c d=some (l8 l n a b c d):=by
 unfold rM SW l8
 grind[PL,Gk,AB,AV,Bi]
theorem pQ(l:BI)(n:Int):rN l n=some (l8 l n 0 0 0 1):=by unfold rN;rw[KS,AB]
theorem cW(l:BI)(n:Int):AKN l n=some (l8 l n 0 0 0 (-1)):=by unfold AKN;rw[KS,AB]
theorem oG(l:BI)(n:Int):ACO l n=some (l8 l n (-1) 1 0 0):=by unfold ACO;rw[KS,AB]
theorem oE(l:BI)(n:Int):AKK l n=some (l8 l n 1 (-1) 0 0):=by unfold AKK;rw[KS,AB]
theorem oH(l:BI)(n:Int):AKE l n=some (l8 l n 0 (-1) 1 0):=by unfold AKE;rw[KS,AB]
theorem oF(l:BI)(n:Int):Wv l n=some (l8 l n 1 0 (-1) 0):=by unfold Wv;rw[KS,AB]
def isP(p:BY)(x:BY):Bool:=x.At==p.At&&(x.Id==p.Id&&true)
def UX(w:Aw)(p:BY):Aw×Bool:=
 if G2 w=true/\1<=p.At then (⟨w.Ar.set (p.At.tmod 9).toNat ((w.Ar.getD (p.At.tmod 9).toNat []).eraseP (isP p))⟩,(w.Ar.getD (p.At.tmod 9).toNat []).any (isP p)) else (w,false)
theorem Uz{w:Aw}(q:DV w)(p:BY):MG w p=some (UX w p):=by
 have hlim:lim=268435456:=rfl;have J:=q.1;have y:=q.2;unfold MG UX;rw[Tp q,AB,HK q,AB,BK,AV,AV,Bi];by_cases c:G2 w=true
 .rw[AW c];unfold Adq;rw[BQ];by_cases E:p.At<1
  .rw[AW E,AR (by omega)]
  .rw[AR E,AW ⟨c,by omega⟩];obtain⟨m,S,e⟩:=cK (n:=p.At) (by omega);have hW:=EF.1 c;have a:m<w.Ar.length:=by have:=hW.1;omega
   have I:w.Ar[m].length<=1048576:=Av (Lm a) y;rw[e,Ac];have H:w.Ar.getD m []=w.Ar[m]:=by rw[A7,AS a];rfl
   rw[H];generalize g:w.Ar[m]=s at I ⊢;have key:=C3 (F:=AcN w p w) (n:=s.length) (fun i (_:Unit)=>(i:Int)) (fun _ _=>True)
    (fun i _=>some (if (s.drop i).any (isP p)=true then ((⟨w.Ar.set m (s.take i++(s.drop i).eraseP (isP p))⟩:Aw),true) else (w,false))) (by omega) ?_ (v:=()) trivial
   .have key':BD (AcN w p w) big 0=_:=key;rw[key'];simp only[List.drop_zero,List.take_zero,CB];split
    .rename_i h;rw[h]
    .rename_i h;have B:s.any (isP p)=false:=by simpa using h
     have G:s.eraseP (isP p)=s:=List.eraseP_of_forall_not fun x O=>by
      have:=List.any_eq_false.1 B x O;simpa using this
     rw[B,G,<-g,List.set_getElem_self]
   .intro L i _ _ hi Q;unfold AcN AgC;rw[e,BG a,AB,g];rcases AZ i s.length with h|h
    .rw[B9 h,BP];simp only[AB,BG h,Ac];rw[Dg h];show br (isP p s[i]) _ _=_;cases j:isP p s[i] with
     |true=>
      rw[BP,Bn h (by omega),B8 ⟨by omega,by omega⟩,B8 ⟨by omega,by omega⟩,B8 (by rw[BL];simp;omega),B8 (by rw[List.length_append,BL];simp;omega)];simp only[Lx,j,Bool.true_or,if_true,List.eraseP_cons_of_pos j,CB,Ac]
     |false=>
      rw[Bb,Bn h (by omega),Q () trivial h];simp only[Lx,j,Bool.false_or,List.eraseP_cons_of_neg (show ¬isP p s[i]=true by rw[j];simp),List.take_succ_eq_append_getElem h,List.append_assoc,List.singleton_append]
    .have:i=s.length:=by omega
     subst this;rw[Cr,Bb,AV,List.drop_length];rfl
 .rw[AR c,AR (by simp[c])];rfl
def Fw(h:AE)(id:Int):Int:=atF (fun x:AU=>x.Id==id) h.AG 0
theorem HI{h:AE}(a:Bt h)(id:Int):I5 h id=some (Fw h id):=by
 unfold I5;rw[Vl a.CM,AB];rfl
def AAL:Ae:=⟨⟨0,0,0,0,0⟩,[],⟨[]⟩⟩
def ym:AU:=⟨0,0,0,0,0,0,0,0,0,0⟩
theorem Ff{h:AE}{k:Int}(a:0<=k)(c:k<h.AH.length):at? h.AH k=some (h.AH.getD k.toNat AAL):=by
 grind[BG]
theorem Yu{h:AE}{k:Int}(a:0<=k)(c:k<h.AG.length):at? h.AG k=some (h.AG.getD k.toNat ym):=by
 grind[BG]
theorem RJ{h:AE}{id:Int}(a:0<=Fw h id):Fw h id<h.AG.length/\(h.AG.getD (Fw h id).toNat ym).Id=id:=by
 grind[Fw,JJ]
def J7(h:AE)(k:Int):Int:=w64 ((h.AH.getD k.toNat AAL).AY.Fm-(h.AH.getD k.toNat AAL).AY.F8)
theorem U1{h:AE}{k:Int}(a:0<=k)(c:k<h.AH.length):Rj h k=some (J7 h k):=by
 unfold Rj;rw[Ff a c,AB,AB];rfl
def Xt(h:AE)(q:B3):Int:=
 if (h.AH.length:Int)<=q.Ab\/(h.AH.length:Int)<=q.Bu\/q.Bu=q.Ab then 4
 else if inB q.BE 1 h.AQ.BE=false then 5
 else if h.AQ.CS<=q.DJ then 6
 else if inB q.Id 1 999=false then 7
 else if 0<=Fw h q.Id then 8
 else if h.AQ.Room<=DS h.AG q.Ab then 9
 else if 0<=q.Bu/\J7 h q.Bu<q.BE then 10
 else if 1000000<h.A0 then 11 else 0
theorem zO{h:AE}(a:Bt h)(q:B3):ACH h q=some (Xt h q):=by
 have j:=a.CM;have g:∀b,((h.AH.length:Int)<=q.Bu->b=true)->Abt h q b=some (if b=true then 4
  else if inB q.BE 1 h.AQ.BE=false then 5
  else if h.AQ.CS<=q.DJ then 6
  else if inB q.Id 1 999=false then 7
  else if 0<=Fw h q.Id then 8
  else if h.AQ.Room<=DS h.AG q.Ab then 9
  else if 0<=q.Bu/\J7 h q.Bu<q.BE then 10
  else if 1000000<h.A0 then 11 else 0):=by
  intro b c;unfold Abt Ado;cases b with
  |true=>rfl|false=>
   have hF:q.Bu<h.AH.length:=by
    by_cases e:(h.AH.length:Int)<=q.Bu
    .cases c e
    .omega
   simp only[Bb,Gk,AB,BK,Bi,Bool.false_eq_true,if_false,ge_iff_le,gt_iff_lt,decide_eq_true_eq,HI a,RP (show h.AG.length<2 ^ 58 by omega),AV];cases inB q.BE 1 h.AQ.BE
   .rfl
   .grind[U1,AB]
 grind[ACH,Xt,BQ,AV]
def AQ2(p:AU)(now:Int):Bool:=p.State==2&&decide (p.C7<=now)
theorem AVK(p:AU)(now:Int):rK p now=some (AQ2 p now):=by
 unfold rK ik AQ2;rw[AV,AV,CX]
def KY(h:AE)(id:Int):Int:=
 if Fw h id<0 then 7
 else if (h.AG.getD (Fw h id).toNat ym).State≠2 then 13
 else if AQ2 (h.AG.getD (Fw h id).toNat ym) h.Now=true then 14 else 0
theorem Ta{h:AE}(a:Bt h)(id:Int):Nr h id=some (KY h id):=by
 unfold Nr KY
 grind[HI,AB,Yu,RJ,AVK,Bi]
def Ht(h:AE)(q:B3):Int:=
 if inB q.Kind 1 7=false then 2
 else if KT q=false then 3
 else if q.Kind=1 then Xt h q
 else if q.Kind=2 then if Fw h q.Id<0 then 7 else 0
 else if q.Kind=3 then if (h.AH.length:Int)<=q.Ab then 4 else if inB q.BE 1 60=false then 5 else if J7 h q.Ab<q.BE then 12 else 0
 else if q.Kind=4\/q.Kind=5 then KY h q.Id
 else if q.Kind=6 then if 1000000<=h.Now then 15 else 0
 else if q.Kind=7 then if h.AQ.Cu<=q.Id then 16 else if h.A9.getD q.Id.toNat 0<0/\h.BB.length=0 then 17 else 0
 else 0
def verdict(h:AE)(q:B3):Int:=if DD h=true then Ht h q else 1
theorem HJ{h:AE}(y:Bt h)(q:B3):Ue h q=some (verdict h q):=by
 unfold Ue verdict;rw[GJ y,AB,BK,Bi];by_cases j:DD h=true
 .rw[AW j,AW j];unfold Ht;rw[Gk,AB,BK,Bi];cases inB q.Kind 1 7
  .rfl
  .simp only[if_true,Dt,if_false];rw[oJ,AB,BK,Bi];cases e:KT q
   .rfl
   .simp only[if_true,Dt,if_false,Bi,beq_iff_eq,AV];by_cases g:q.Kind=1
    .rw[AW g,AW g,zO y,AB]
    .rw[AR g,AR g];by_cases E:q.Kind=2
     .rw[AW E,AW E,HI y,AB];simp only[decide_eq_true_eq];split<;>rfl
     .rw[AR E,AR E];by_cases B:q.Kind=3
      .rw[AW B,AW B];have Y:0<=q.Ab:=by
        unfold KT at e;rw[AR g,AR (by omega),AW B]at e;simp only[AF,Rv,CA]at e;exact e.1.1
       simp only[ge_iff_le,decide_eq_true_eq,Gk,AB,Bool.not_eq_true'];by_cases a:(h.AH.length:Int)<=q.Ab
       .rw[AW a,AW a]
       .rw[AR a,AR a];cases inB q.BE 1 60
        .rfl
        .simp only[Dt,if_false];rw[U1 Y (by omega),AB];by_cases X:J7 h q.Ab<q.BE<;>simp[X]<;>rfl
      .rw[AR B,AR B];unfold SV;by_cases c:q.Kind=4\/q.Kind=5
       .rw[AW c];rcases c with c|c
        .simp only[c,if_true,beq_self_eq_true,BP,Ta y,AB]
        .simp only[c,if_true,beq_self_eq_true,BP,Ta y,AB];rfl
       .have I:q.Kind≠4:=fun h=>c (.inl h)
        have J:q.Kind≠5:=fun h=>c (.inr h)
        rw[AR c,AR I];have O:(q.Kind==5)=false:=by simpa using J
        rw[O,Bb]
        try simp only[Bi,beq_iff_eq,AV,ge_iff_le,decide_eq_true_eq]
        by_cases G:q.Kind=6
        .rw[AW G,AW G];split<;>rfl
        .rw[AR G,AR G];by_cases H:q.Kind=7
         .rw[AW H,AW H];have hR:=ON j;have hi:0<=q.Id:=by
           unfold KT at e;rw[AR g,AW (by omega)]at e;simp only[AF,Rv,CA]at e;exact e.1.1
          by_cases a:h.AQ.Cu<=q.Id
          .rw[AW a,AW a]
          .rw[AR a,AR a];obtain⟨n,Z⟩:=Int.eq_ofNat_of_zero_le hi;have L:n<h.A9.length:=by have:=hR.PE;omega
           rw[Z,BG L,AB,Ac,A7,AS L,Option.getD_some];unfold Adp Wz;simp only[Bi,AV,beq_iff_eq];by_cases Q:h.A9[n]<0<;>by_cases S:h.BB.length=0<;>simp[Q,S]
         .rw[AR H,AR H];rfl
 .rw[AR j,AR j]
def QP(l:List Int)(k:Int):List Int:=if l.any (fun y=>y==k)=true then l else l++[k]
theorem JQ{l:List Int}(a:l.length<=1048576)(k:Int):AJ7 l k=some (QP l k):=by
 grind[lim,AJ7,QP,B8,Vm,AB,Bi]
def cbn(h:AE)(k:Int):Ae:=h.AH.getD k.toNat AAL
def Cj(h:AE)(k:Int)(c:Ae):AE:=⟨h.AQ,h.Now,h.A0,h.AG,h.AH.set k.toNat c,h.BB,h.A9⟩
theorem U9{h:AE}{k:Int}(a:0<=k)(c:k<h.AH.length):cbn h k∈h.AH:=by
 grind[cbn,List.getElem?_eq_getElem,List.getElem_mem]
theorem cG{h:AE}(e:Bt h){p:AU}(a:0<=p.Ab)(c:p.Ab<h.AH.length) :
 rL h p=some (Cj h p.Ab ⟨(cbn h p.Ab).AY,put ltE (E4 h.AQ p h.Now).1 (cbn h p.Ab).Row,(cbn h p.Ab).By⟩):=by
 have hlim:lim=268435456:=rfl;have j:=e.De;have g:=(e.ED _ (U9 a c)).1;unfold rL;rw[YW (by omega),AB,Ff a c,AB,AB];show bd (AFS (cbn h p.Ab).Row _) _=_;rw[oM (by omega),AB,AB,AB];rfl
theorem Yb{h:AE}(g:Bt h){p:AU}(a:0<=p.Ab)(c:p.Ab<h.AH.length) :
 ACK h p=some (Cj h p.Ab ⟨(l8 (cbn h p.Ab).AY p.BE 1 (-1) 0 0).1,(cbn h p.Ab).Row,(UX (cbn h p.Ab).By ⟨p.C7,p.Id⟩).1⟩):=by
 have e:=(g.ED _ (U9 a c)).2;unfold ACK;rw[Ff a c,AB,AB,oE,AB];show bd (MG (cbn h p.Ab).By _) _=_;rw[Uz e,AB,AB,AB,B8 ⟨rfl,⟨by omega,by omega⟩,trivial⟩];rfl
def gone(h:AE)(p:AU):AE:=
 let h':AE:=⟨h.AQ,h.Now,h.A0,h.AG.eraseP (fun x=>x.Id==p.Id),h.AH,h.BB,h.A9⟩
 if 0<=p.Bu then Cj h' p.Bu ⟨(l8 (cbn h p.Bu).AY p.BE 0 0 0 (-1)).1,(cbn h p.Bu).Row,(cbn h p.Bu).By⟩ else h'
theorem NJ{h:AE}(e:Bt h){p:AU}(c:p.Bu<h.AH.length):SR h p=some (gone h p):=by
 unfold SR Pq gone;rw[pP e.CM,AB,BQ];by_cases a:0<=p.Bu
 .rw[AW a,AW a,Ff a c,AB,AB,cW,AB,AB,AB,AV];rfl
 .rw[AR a,AR a,AV]
def Sl(h:AE)(k n:Int):AE:=
 let h':=Cj h k ⟨(l8 (cbn h k).AY n 1 0 (-1) 0).1,(cbn h k).Row,(cbn h k).By⟩
 ⟨h'.AQ,h'.Now,h'.A0,h'.AG,h'.AH,QP h.BB k,h'.A9⟩
theorem Yc{h:AE}(e:Bt h){k:Int}(a:0<=k)(c:k<h.AH.length)(n:Int):AKC h k n=some (Sl h k n):=by
 unfold AKC Sl;rw[Ff a c,AB,AB,oF,AB,AB,AB,JQ e.todo,AB];rfl
def Kt(a b:AU):Bool:=decide (a.Id<b.Id)
def K8(l:List AU)(p:AU):List AU:=
 if 0<=atF (fun x:AU=>x.Id==p.Id) l 0 then l.set (atF (fun x:AU=>x.Id==p.Id) l 0).toNat p else put Kt p l
theorem PM{l:List AU}(c:l.length<=1048576)(p:AU):iD l p=some (K8 l p):=by
 have hlim:lim=268435456:=rfl;unfold iD K8;rw[Vl c,AB,B8 (by omega),BQ,CB];split
 .grind[atF,AU,JJ,BG,AB]
 .rename_i e;have a:∀i:Nat,i<=l.length->Adb l p i=some (l.take i++p::l.drop i):=by
   grind[Adb,Ce,Kg,Kh,Ki,Kj,J4,Kk,Kl,GK,Ym,Int.toNat_natCast,List.length_take,B8,List.length_cons,List.length_nil,List.length_append,List.length_drop]
  refine TN (lt:=Kt) some (by omega) ?_ ?_
  .intro L i h;unfold iE AcD;rw[B9 h,BP,BG h,AB,AV,AV,a i (by omega)];rfl
  .intro L;unfold iE AcD;rw[Cr,Bb,AV,Bb,AV,a _ (Nat.le_refl _)];simp
def El(r:Aa)(p:AU)(now:Int):AU×Bool:=
 if Dq r p now=true/\p.State=2/\w64 (p.Dh+1)<r.CY then (⟨p.Id,p.Ab,p.Bu,p.BE,p.DJ,p.Since,p.A0,1,w64 (now+r.Rest),w64 (p.Dh+1)⟩,true) else (ym,false)
theorem AEr{r:Aa}(e:r.AY.length<2 ^ 62)(p:AU)(now:Int):iW r p now=some (El r p now):=by
 unfold iW AcI El;rw[NI e,AB];simp only[AV,BK,Bi,ge_iff_le,decide_eq_true_eq,bne_iff_ne,ne_eq];cases Dq r p now
 .rfl
 .by_cases a:p.State=2
  .by_cases c:r.CY<=w64 (p.Dh+1)
   .have:¬w64 (p.Dh+1)<r.CY:=by omega
    simp[a,c,this];rfl
   grind
  .simp[a];rfl
structure Vx(n:Nat)(c:Ae):Prop where
 row:c.Row.length<=n
 U3:c.By.Ar.length<=1048576
 pins:c.By.Ar.flatten.length<=n
structure Sm(n:Nat)(h:AE):Prop where
 De:h.AQ.AY.length<=1048576
 CM:h.AG.length<=n
 Ds:h.AH.length<=1048576
 ED:∀c∈h.AH,Vx n c
 todo:h.BB.length<=n
 Fk:h.A9.length<=1048576
theorem Vx.mono{n m:Nat}{c:Ae}(h:Vx n c)(a:n<=m):Vx m c:=⟨Av h.row a,h.U3,Av h.pins a⟩
theorem Sm.mono{n m:Nat}{h:AE}(a:Sm n h)(e:n<=m):Sm m h:=
 ⟨a.De,Av a.CM e,a.Ds,fun c g=>(a.ED c g).mono e,Av a.todo e,a.Fk⟩
theorem Sm.fit{n:Nat}{h:AE}(a:Sm n h)(e:n<=1048576):Bt h:=
 ⟨a.De,Av a.CM e,a.Ds,fun c g=>⟨Av (a.ED c g).row e,(a.ED c g).U3,Av (a.ED c g).pins e⟩,Av a.todo e,a.Fk⟩
theorem Sm.cab{n:Nat}{h:AE}(a:Sm n h){k:Int}{c:Ae}(j:Vx n c):Sm n (Cj h k c):=by
 refine⟨a.De,a.CM,by simpa[Cj] using a.Ds,?_,a.todo,a.Fk⟩;intro q e;rcases List.mem_or_eq_of_mem_set e with g|rfl
 .exact a.ED _ g
 .exact j
theorem AV7(n:Nat):Vx n AAL:=⟨by simp[AAL],by simp[AAL],by simp[AAL]⟩
theorem Sm.cbn{n:Nat}{h:AE}(e:Sm n h)(k:Int):Vx n (cbn h k):=by
 unfold Lv.P.cbn;rw[A7];cases a:h.AH[k.toNat]? with
 |none=>exact AV7 n|some c=>exact e.ED c (List.mem_of_getElem? a)
theorem Vh{α:Type}(lt:α->α->Bool)(a:α):∀l:List α,(put lt a l).length=l.length+1| []=>rfl|b::l=>by unfold put;split<;>simp[Vh lt a l]
theorem VH{α:Type}(p:α->Bool)(l:List α):(l.eraseP p).length<=l.length:=(List.eraseP_sublist).length_le
theorem AMv{n:Nat}{c:Ae}(h:Vx n c)(p:BY):(UX c.By p).1.Ar.length<=1048576/\(UX c.By p).1.Ar.flatten.length<=n:=by
 unfold UX;split
 .refine⟨by simpa using h.U3,?_⟩;rcases AZ (p.At.tmod 9).toNat c.By.Ar.length with a|a
  .have e:c.By.Ar.getD (p.At.tmod 9).toNat []=c.By.Ar[(p.At.tmod 9).toNat]:=by rw[A7,AS a];rfl
   have g:=ADP a ((c.By.Ar[(p.At.tmod 9).toNat]).eraseP (isP p));have j:=VH (isP p) (c.By.Ar[(p.At.tmod 9).toNat]);have q:=h.pins;dsimp only;rw[e];omega
  .dsimp only;rw[List.set_eq_of_length_le a];exact h.pins
 .exact⟨h.U3,h.pins⟩
theorem QQ(l:List Int)(k:Int):(QP l k).length<=l.length+1:=by unfold QP;split<;>simp
theorem ATc(l:List AU)(p:AU):(K8 l p).length<=l.length+1:=by
 grind[K8,Vh]
theorem AVA{n:Nat}{h:AE}(g:Sm n h){c:Ae}{e:Au}{k:Int}{l:BI}(a:Vx n c):Sm (n+1) (Cj h k ⟨l,put ltE e c.Row,c.By⟩):=by
 refine(g.mono (C4 n)).cab ⟨?_,a.U3,Av a.pins (C4 n)⟩;rw[Vh];have:=a.row;omega
theorem da{n:Nat}{h:AE}(a:Sm n h)(p:AU):Sm n (gone h p):=by
 have e:Sm n ⟨h.AQ,h.Now,h.A0,h.AG.eraseP (fun x=>x.Id==p.Id),h.AH,h.BB,h.A9⟩:=
  ⟨a.De,Av (VH _ _) a.CM,a.Ds,a.ED,a.todo,a.Fk⟩
 unfold gone;dsimp only;split
 .have c:=a.cbn p.Bu;exact e.cab ⟨c.row,c.U3,c.pins⟩
 .exact e
theorem ADS{n:Nat}{h:AE}(g:Sm n h)(k m:Int):Sm (n+1) (Sl h k m):=by
 have e:=g.cbn k;have a:=(g.cab (k:=k) (c:=⟨(l8 (Lv.P.cbn h k).AY m 1 0 (-1) 0).1,(Lv.P.cbn h k).Row,(Lv.P.cbn h k).By⟩) ⟨e.row,e.U3,e.pins⟩).mono (C4 n);unfold Sl;exact⟨a.De,a.CM,a.Ds,a.ED,Av (QQ _ _) (by have:=g.todo;omega),a.Fk⟩
def dropped(h:AE)(p:AU):AE:=Cj h p.Ab ⟨(l8 (cbn h p.Ab).AY p.BE 1 (-1) 0 0).1,(cbn h p.Ab).Row,(UX (cbn h p.Ab).By ⟨p.C7,p.Id⟩).1⟩
theorem Nu{n:Nat}{h:AE}(c:Sm n h)(p:AU):Sm n (dropped h p):=by
 have a:=c.cbn p.Ab;have e:=AMv a ⟨p.C7,p.Id⟩;exact c.cab ⟨a.row,e.1,e.2⟩
def OK(h:AE)(l:List AU):AE:=⟨h.AQ,h.Now,h.A0,l,h.AH,h.BB,h.A9⟩
def Gz(h:AE)(p:AU):AE:=Cj h p.Ab ⟨(cbn h p.Ab).AY,put ltE (E4 h.AQ p h.Now).1 (cbn h p.Ab).Row,(cbn h p.Ab).By⟩
theorem UO{n:Nat}{h:AE}(c:Sm n h)(p:AU):Sm (n+1) (OK h (K8 h.AG p)):=by
 have a:=c.mono (C4 n);exact⟨a.De,Av (ATc _ _) (by have:=c.CM;omega),a.Ds,a.ED,a.todo,a.Fk⟩
def Io(h:AE)(p:AU):AE:=
 if (El h.AQ p h.Now).2=true then Gz (OK (dropped h p) (K8 h.AG (El h.AQ p h.Now).1)) (El h.AQ p h.Now).1 else gone (dropped h p) p
theorem bQ{r:Aa}{p:AU}{now:Int}(h:(El r p now).2=true):(El r p now).1.Ab=p.Ab:=by
 grind[El]
theorem AQ9{n:Nat}{h:AE}(a:Sm n h)(p:AU):Sm (n+2) (Io h p):=by
 unfold Io;split
 .exact AVA (UO (Nu a p) _) ((UO (Nu a p) _).cbn _)
 .exact(da (Nu a p) p).mono (by omega)
theorem U2{n:Nat}(G:n+2<=1048576){h:AE}(c:Sm n h){p:AU}(e:0<=p.Ab)(g:p.Ab<h.AH.length)(y:p.Bu<h.AH.length):iX h p=some (Io h p):=by
 unfold iX;rw[Yb (c.fit (by omega)) e g,AB];have q:=Nu c p;have H:=c.De;show bd (iW h.AQ p h.Now) _=_;rw[AEr (by omega),AB,BK,Bi];unfold Io;have a:(dropped h p).AH.length=h.AH.length:=by simp[dropped,Cj]
 split
 .rename_i B;have j:=bQ B;rw[PM (by have:=c.CM;show h.AG.length<=_;omega),AB];have E:=UO q (El h.AQ p h.Now).1;show bd (rL (OK (dropped h p) (K8 h.AG (El h.AQ p h.Now).1)) _) _=_;rw[cG (h:=OK (dropped h p) (K8 h.AG (El h.AQ p h.Now).1)) (E.fit (by omega)) (by rw[j];exact e) (by rw[j];show p.Ab<((dropped h p).AH.length:Int);rw[a];exact g),AB];rfl
 .show bd (SR (dropped h p) p) _=_;rw[NJ (q.fit (by omega)) (by rw[a];exact y),AB]
def ET(h:AE)(l:List Int):AE:=⟨h.AQ,h.Now,h.A0,h.AG,h.AH,l,h.A9⟩
def Hv(h:AE)(id cabin frm size tier:Int):AU:=⟨id,cabin,frm,size,tier,h.Now,h.A0,1,0,0⟩
def JG(h:AE)(k n:Int):AE:=Cj h k ⟨(l8 (cbn h k).AY n 0 0 0 1).1,(cbn h k).Row,(cbn h k).By⟩
def Mf(h:AE)(id cabin frm size tier:Int):AE:=
 let p:=Hv h id cabin frm size tier
 let x:=Gz ⟨h.AQ,h.Now,w64 (h.A0+1),K8 h.AG p,h.AH,h.BB,h.A9⟩ p
 let y:=if 0<=frm then JG x frm size else x
 ET y (QP y.BB cabin)
def bk(h:AE)(id cabin frm size tier:Int):AE×Int:=
 if verdict h ⟨1,id,cabin,frm,size,tier⟩≠0 then (h,verdict h ⟨1,id,cabin,frm,size,tier⟩) else (Mf h id cabin frm size tier,0)
theorem ANk{h:AE}(e:Bt h){p:AU}(a:0<=p.Ab)(c:p.Ab<h.AH.length):rL h p=some (Gz h p):=cG e a c
theorem Yn{h:AE}{id cabin frm size tier:Int}(a:verdict h ⟨1,id,cabin,frm,size,tier⟩=0):DD h=true/\0<=cabin/\cabin<h.AH.length/\frm<h.AH.length:=by
 grind[verdict,Ht,KT,Rv,CA,Xt]
theorem APX{n:Nat}(Q:n+3<=1048576){h:AE}(G:Sm n h)(id cabin frm size tier:Int):il h id cabin frm size tier=some (bk h id cabin frm size tier)/\Sm (n+3) (bk h id cabin frm size tier).1:=by
 have E:=G.fit (by omega);unfold il IN bk;rw[Hm E,AB,HJ E,AB];simp only[Bi,bne_iff_ne,ne_eq,BQ,ge_iff_le,AV];by_cases y:verdict h ⟨1,id,cabin,frm,size,tier⟩=0
 .obtain⟨O,I,J,L⟩:=Yn y;rw[AR (not_not_intro y),AR (not_not_intro y),PM E.CM,AB];have g:Sm (n+1) (⟨h.AQ,h.Now,w64 (h.A0+1),K8 h.AG (Hv h id cabin frm size tier),h.AH,h.BB,h.A9⟩:AE):=by
   have j:=UO G (Hv h id cabin frm size tier);exact⟨j.De,j.CM,j.Ds,j.ED,j.todo,j.Fk⟩
  have e:Sm (n+2) (Gz ⟨h.AQ,h.Now,w64 (h.A0+1),K8 h.AG (Hv h id cabin frm size tier),h.AH,h.BB,h.A9⟩ (Hv h id cabin frm size tier)):=AVA g (g.cbn _);show bd (rL ⟨h.AQ,h.Now,w64 (h.A0+1),K8 h.AG (Hv h id cabin frm size tier),h.AH,h.BB,h.A9⟩ (Hv h id cabin frm size tier)) _=_/\_;rw[ANk (g.fit (by omega)) (show 0<=(Hv h id cabin frm size tier).Ab from I) (show (Hv h id cabin frm size tier).Ab<_ from J),AB];simp only[decide_eq_true_eq];unfold Mf;dsimp only;generalize hX:Gz ⟨h.AQ,h.Now,w64 (h.A0+1),K8 h.AG (Hv h id cabin frm size tier),h.AH,h.BB,h.A9⟩ (Hv h id cabin frm size tier)=X at e ⊢;have q:X.AH.length=h.AH.length:=by rw[<-hX];simp[Gz,Cj]
  by_cases c:0<=frm
  .rw[AW c,AW c,Ff c (by rw[q];exact L),AB,AB,pQ,AB,AB,AB,JQ (by have:=e.todo;show X.BB.length<=_;omega),AB];have B:=e.cbn frm;have H:Sm (n+2) (JG X frm size):=e.cab ⟨B.row,B.U3,B.pins⟩;have a:=H.mono (C4 (n+2));exact⟨rfl,a.De,a.CM,a.Ds,a.ED,Av (QQ _ _) (by have:=H.todo;omega),a.Fk⟩
  .rw[AR c,AR c];show bd (AJ7 X.BB cabin) _=_/\_;rw[JQ (by have:=e.todo;omega),AB];have a:=e.mono (C4 (n+2));exact⟨rfl,a.De,a.CM,a.Ds,a.ED,Av (QQ _ _) (by have:=e.todo;omega),a.Fk⟩
 .rw[AW y,AW y];exact⟨rfl,G.mono (by omega)⟩
def par(h:AE)(id:Int):AU:=h.AG.getD (Fw h id).toNat ym
theorem nd{h:AE}(e:DD h=true){id:Int}(c:0<=Fw h id):0<=(par h id).Ab/\(par h id).Ab<h.AH.length /\ -1<=(par h id).Bu/\(par h id).Bu<h.AH.length/\(par h id).Id=id:=by
 have hR:=ON e;obtain⟨y,B⟩:=RJ c;have hi:(Fw h id).toNat<h.AG.length:=by omega
 have a:=hR.par _ hi;have j:par h id=h.AG[(Fw h id).toNat]:=by unfold par;rw[A7,AS hi];rfl
 rw[<-j]at a;unfold Dq at a;have E:=hR.De;simp only[AF,CA]at a;obtain⟨_,_,_,g,q,_⟩:=a;rw[A2 (by omega) (by omega)]at g q;have:=hR.Ds
 grind
def bR(h:AE)(k n:Int):AE×Int:=
 if verdict h ⟨3,0,k,0,n,0⟩≠0 then (h,verdict h ⟨3,0,k,0,n,0⟩) else (Sl h k n,0)
theorem RZ{h:AE}{k n:Int}(a:verdict h ⟨3,0,k,0,n,0⟩=0):DD h=true/\0<=k/\k<h.AH.length:=by
 grind[verdict,Ht,KT,Rv,CA]
theorem n8{m:Nat}(y:m+1<=1048576){h:AE}(e:Sm m h)(k n:Int):AKD h k n=some (bR h k n)/\Sm (m+1) (bR h k n).1:=by
 have c:=e.fit (by omega);unfold AKD bR;rw[Hm c,AB,HJ c,AB];simp only[Bi,bne_iff_ne,ne_eq];by_cases a:verdict h ⟨3,0,k,0,n,0⟩=0
 .obtain⟨q,g,j⟩:=RZ a
  grind[Yc,AB,ADS]
 .rw[AW a,AW a];exact⟨rfl,e.mono (by omega)⟩
end Lv.P
