/- Plain laws about what the program computes. -/
import Derived.Test.YtfokjgkkeobaiaaGreatPFS
set_option linter.all false
noncomputable section
open Bool renaming and_eq_true->AF,and_true->CN,false_eq_true->BJ,not_eq_false->Et,not_eq_true->DG,not_false->ER,not_true->Bl,true_and->CU,true_eq_false->Dd
open Int renaming eq_ofNat_of_zero_le->Ai,toNat_natCast->Ag
open List renaming all_eq_true->CG,all_nil->NP,append_assoc->BR,append_inj->D8,append_nil->CX,cons_append->Bm,drop_append_of_le_length->Ei,drop_eq_getElem_cons->CM,drop_eq_nil_of_le->As,drop_length->Cq,drop_take->Ld,getD_eq_getElem?_getD->BC,getElem?_eq_getElem->AR,getElem_mem->Ak,length_append->AH,length_cons->AI,length_drop->BI,length_eq_zero_iff->Fk,length_map->Ac,length_nil->AM,length_pos_iff->JQ,length_singleton->BZ,length_take->Aj,mem_append->Bs,mem_cons->Ae,mem_cons_of_mem->Af,mem_cons_self->BK,mem_iff_getElem->C4,nil_append->Be,not_mem_nil->H8,set_set->FW,take_append_drop->Cb,take_left'->Ce,take_length->Ch,take_of_length_le->BE,take_succ_cons->Cy
open List.cons renaming injEq->CE
open Nat renaming le_refl->Ab,le_trans->Av,lt_or_ge->Aa,sub_zero->FX,zero_add->Ar
open Option renaming getD_some->DH
open Option.some renaming injEq->AD
namespace Lv.P
open Lv Go
variable{H g h:AE}{x y:AE×Int×Bool}{r:AY}{e:Az}{c:BT}{w:BV}{s:Bj}{a:Bp}{b id k m n p q:Int}{l:List A2}{R:List Bq}{T:List UInt8}{B i:Nat}{α:Type}
theorem Rp{l:List AU}(a:l.length<=1048576)(id:Int):rP l id=some (atF (λx=>x.Id==id) l 0):=by
 unfold rP APY
 grind[RJ,AB,ACJ,APX,BQ,BM,ACI,BW,AV]
def HW(a:Bt h)(id:Int):NT h id=some (GN h id):=by
 unfold NT;rw[Rp a.CR,AB];rfl
def mP(a:0<=k)(c:k<h.AJ.length):rS h k=some (Kk h k):=by
 unfold rS;rw[F4 a c,AB,AB];rfl
theorem ATX(p:AU)(now:Int):ACW p now=some (AP0 p now):=by
 unfold ACW jl AP0;rw[AV,AV,Ck]
theorem Ib{l:List Int}(a:l.length<=1048576)(k:Int):XY l k=some (Q5 l k):=by
 grind[lim,XY,jx,Q5,UM,AB,Ps,Bu,AV,CD]
theorem AFX{c:C}{l:List c.D}{k:Nat}(a:k<l.length):ADJ c l (k:Int) ((k+1:Nat):Int)=some (l.take k++l.drop (k+1)):=by
 grind[ADJ]
theorem ATa{c:C}{l:List c.D}{k:Nat}(a:k<=l.length)(e:l.length<=1048576)(x:c.D):pD c l (k:Int) [x]=some (l.take k++x::l.drop k):=by
 grind[pD,lim]
def AaQ{l:List AU}{k:Nat}(a:k<l.length):AYP l (k:Int) ((k:Int)+1)=some (l.take k++l.drop (k+1)):=AFX (c:=.st 2) a
def AYb{l:List AU}{k:Nat}(a:k<=l.length)(e:l.length<=1048576)(x:AU):AYQ l (k:Int) [x]=some (l.take k++x::l.drop k):=ATa (c:=.st 2) a e x
def AaO{k:Nat}(a:k<l.length):AYN l (k:Int) ((k:Int)+1)=some (l.take k++l.drop (k+1)):=AFX (c:=.st 4) a
def Aae{k:Nat}(a:k<=l.length)(e:l.length<=1048576)(x:A2):APW l (k:Int) [x]=some (l.take k++x::l.drop k):=ATa (c:=.st 4) a e x
def AaP{l:List Bf}{k:Nat}(a:k<l.length):AYO l (k:Int) ((k:Int)+1)=some (l.take k++l.drop (k+1)):=AFX (c:=.st 5) a
def Pt{l:List AU}(h:l.length<=1048576)(id:Int):XZ l id=some (l.eraseP (λx=>x.Id==id)):=by
 have hlim:=Acx;unfold XZ j8;rw[CD (by omega),Rp h,AB,BX];rcases Jk (λx:AU=>x.Id==id) l 0 with ⟨a,c,e⟩|⟨k,g,a,c,e,_⟩
 .rw[a,ifN,AV,c]
 .rw[a,Ar,ifP,A7];rw[AaQ g];erw [AB];rw[AV,c]
def Vf(a:l.length<=1048576):W8 l=some l:=by
 unfold W8;rw[CD (by unfold lim;omega)]
theorem VF(h:l.length<=1048576)(id:Int):ACZ l id=some (l.eraseP (λx=>x.Id==id),l.any λx=>x.Id==id):=by
 have hlim:=Acx;unfold ACZ;rw[Vf h,AB,YG (by omega),AB,BX];rcases Jk (λx:A2=>x.Id==id) l 0 with ⟨a,c,e⟩|⟨k,g,a,c,e,_⟩
 .grind
 .rw[a,Ar,ifN,A7];rw[AaO g];erw [AB];rw[c,e]
theorem Pw{w:A3}(B:Dc w){p:Bf}(E:R4 p=true):rV w p=some (U4 w p):=by
 have hlim:=Acx;have c:=(Nq E).1.1;unfold rV;rw[UN B,AB,Ic B,AB,Vz,E,AB,BG,Bu,AV,AV];unfold U4 jz;by_cases j:HO w=true
 .rw[AW j,AW ⟨j,c⟩,Bl,BW];have ⟨m,H,y⟩:=dH (n:=p.At) c;have a:m<w.Aw.length:=by have:=(EU.1 j).1;omega
  have I:w.Aw[m].length<=1048576:=Av (MW a) B.2;rw[y,Ag,BC,AR a,DH];simp only[BM a,AB];have q:AJr w.Aw[m] p=some (atF (isP p) w.Aw[m] 0):=by
   grind[AJr,RJ,ACb,isP,BQ,BM,AB,ACa,BW,AV]
  rw[q,AB,BX];rcases Jk (isP p) w.Aw[m] 0 with ⟨e,g,h⟩|⟨k,G,e,g,h,_⟩
  .rw[e,ifP,g,h,List.set_getElem_self]
  .rw[e,Ar,ifN,A7];rw[AaP G];erw [AB];rw[CD ⟨rfl,⟨by omega,by omega⟩,trivial⟩,g,h]
 grind[BQ]
theorem Ql{l l':BO}{a c d:Int}(h:Ep l=true->0<=n->n<=60->l'=⟨l.Total,w64 (l.D7+w64 (a*n)),w64 (l.FQ+w64 (b*n)),w64 (l.GB+w64 (c*n)),w64 (l.Gb+w64 (d*n))⟩) :
 (if Ep l=true then if inB n 0 60=true then if Ep l'=true then some (l',true) else some (l,false) else some (l,false) else some (l,false))=some (l8 l n a b c d):=by
 unfold l8
 grind[inB]
theorem OG{x:Int}(h:-1000<=x/\x<=1000):w64 x=x:=A7 (by omega) (by omega)
theorem pC(l:BO)(n:Int):AJp l n=some (l8 l n 0 0 0 1):=by
 rw[<-Ql (l':=⟨l.Total,l.D7,l.FQ,l.GB,w64 (l.Gb+n)⟩) λh a c=>by have:=GH.1 h;congr 1<;>grind[OG]];unfold AJp APh jw APg
 grind[Gs,Fv,AB,AV,Bu]
theorem NF(l:BO)(n:Int):rW l n=some (l8 l n 0 0 0 (-1)):=by
 rw[<-Ql (l':=⟨l.Total,l.D7,l.FQ,l.GB,w64 (l.Gb-n)⟩) λh a c=>by have:=GH.1 h;congr 1<;>grind[OG]];unfold rW APl j7 APk
 grind[Gs,Fv,AB,AV,Bu]
theorem mM(l:BO)(n:Int):AJ5 l n=some (l8 l n (-1) 1 0 0):=by
 rw[<-Ql (l':=⟨l.Total,w64 (l.D7-n),w64 (l.FQ+n),l.GB,l.Gb⟩) λh a c=>by have:=GH.1 h;congr 1<;>grind[OG]];unfold AJ5 APr ka APq
 grind[Gs,Fv,AB,AV,Bu]
theorem Th(l:BO)(n:Int):ACc l n=some (l8 l n 1 (-1) 0 0):=by
 rw[<-Ql (l':=⟨l.Total,w64 (l.D7+n),w64 (l.FQ-n),l.GB,l.Gb⟩) λh a c=>by have:=GH.1 h;congr 1<;>grind[OG]];unfold ACc APj j6 APi
 grind[Gs,Fv,AB,AV,Bu]
theorem mN(l:BO)(n:Int):AJj l n=some (l8 l n 0 (-1) 1 0):=by
 rw[<-Ql (l':=⟨l.Total,l.D7,w64 (l.FQ-n),w64 (l.GB+n),l.Gb⟩) λh a c=>by have:=GH.1 h;congr 1<;>grind[OG]];unfold AJj APd jg APc
 grind[Gs,Fv,AB,AV,Bu]
theorem Ti(l:BO)(n:Int):ACd l n=some (l8 l n 1 0 (-1) 0):=by
 rw[<-Ql (l':=⟨l.Total,w64 (l.D7+n),l.FQ,w64 (l.GB-n),l.Gb⟩) λh a c=>by have:=GH.1 h;congr 1<;>grind[OG]];unfold ACd APn kC APm
 grind[Gs,Fv,AB,AV,Bu]
theorem AUT{α:Type}{lt:α->α->Bool}{q:α->Bool}(a:α):∀{l:List α} (s:Nat),(∀x∈l,q x=!(lt x a))->(atF q l s = -1/\put lt a l=l++[a])\/∃k,k<l.length/\atF q l s=((s+k:Nat):Int)/\put lt a l=l.take k++a::l.drop k
 | [],s,_=>.inl ⟨rfl,rfl⟩|z::l,s,h=>by
  have E:=h z (BK ..);cases e:lt z a with
  |true=>
   have j:q z=false:=by rw[E,e];rfl
   rcases AUT a (l:=l) (s+1) (λx B=>h x (Af _ B)) with ⟨c,g⟩|⟨k,y,c,g⟩
   .exact .inl ⟨by simp[atF,j,c],by simp[put,e,g]⟩
   .exact .inr ⟨k+1,by simpa using y,by simp only[atF,j,BJ,if_false,c];omega,by simp[put,e,g]⟩
  |false=>
   grind[atF,put]
theorem Pu{l:List AU}(g:l.length<=1048576)(p:AU):rT l p=some (Lb l p):=by
 have hlim:=Acx;unfold rT jr Lb;rw[CD (by omega),Rp g,AB,BX];rcases Jk (λx:AU=>x.Id==p.Id) l 0 with ⟨j,_,y⟩|⟨k,B,j,_⟩
 .rw[j,ifN,ifN];have e:AJo l p=some (atF (λx:AU=>decide (x.Id>p.Id)) l 0):=by
   grind[AJo,RJ,ACY,APf,BQ,BM,AB,ACX,BW,AV]
  rw[e,AB,BX,AV,AV];have h:=List.any_eq_false.1 y;rcases AUT (lt:=LP) (q:=λx:AU=>decide (x.Id>p.Id)) p (l:=l) 0 (λx E=>by
   have:=h x E;simp only[beq_iff_eq]at this;unfold LP;rw[Bool.eq_iff_iff];simp;omega) with ⟨a,c⟩|⟨k,B,a,c⟩
  .have:=AYb (l:=l) (k:=l.length) (Ab _) g p;rw[a,ifP,this];erw [AB];rw[c];simp
  .have:=AYb (l:=l) (k:=k) (by omega) g p;rw[a,Ar,ifN,this];erw [AB];rw[c]
 grind[BM,AB]
theorem VG(c:l.length<=1048575)(e:A2):rU l e=some (if LU l=true/\LU (put ltE e l)=true then (put ltE e l,true) else (l,false)):=by
 have hlim:=Acx;unfold rU;rw[Vf (by omega),AB];have a:∀i:Nat,i<=l.length->jt l e l i=some (if LU l=true/\LU (l.take i++e::l.drop i)=true then (l.take i++e::l.drop i,true) else (l,false)):=by
  intro i hi;have:=Aae (l:=l) (k:=i) hi (by omega) e;unfold jt ju;rw[Vf (by omega)];rw[AB,this]
  erw [AB]
  rw[AB,this]
  erw [AB]
  grind[Co,AB,YH,AV,Bu]
 refine Tz (lt:=ltE) (λm=>some (if LU l=true/\LU m=true then (m,true) else (l,false))) (by omega) ?_ ?_
 .grind[jv,XX,BQ,BM,AB,Te,AV]
 grind[jv,XX,BW,AV]
theorem ADk(h:r.AX.length<2 ^ 62)(p:AU)(now:Int):AJl r p now=some (E2 r p now):=by
 unfold AJl XV E2;rw[Nj h,AB];simp only[AV,BG,Bu,bne_iff_ne,ne_eq,beq_iff_eq];by_cases a:D3 r p now=true
 .have g:=FF a;have j:=CO g.1;have ew:w64 (p.Du+1)=p.Du+1:=A7 (by omega) (by omega);rw[ew];by_cases c:p.State=2
  .by_cases e:p.Du+1=r.Cl
   .have:¬p.Du+1<r.Cl:=by omega
    simp[a,c,e];rfl
   grind
  .simp[a,c];rfl
 .simp[a];rfl
theorem AIE{q:Bq}(h:KJ q=true):(q.Kind=1->0<=q.AZ /\ -1<=q.B0)/\(q.Kind=3->0<=q.AZ)/\(q.Kind=7->0<=q.Id):=by
 grind[KJ,RW,B9]
theorem AG4(hR:RH h){q:Bq}(B:0<=q.AZ)(E:-1<=q.B0) :
 (bd (NS q.AZ (↑h.AJ.length:Int)) λy=>
  br (!y)
   (jn (Mo h q) true)
   (bd (DN q.B0 (-1) (w64 ((↑h.AJ.length:Int)-1))) λa=>
   br (!a)
    (jn (Mo h q) true)
    (jn (Mo h q) (q.B0==q.AZ))))=some (YP h q):=by
 have e:=hR.fit;have g:=hR.len;have I:=e.CR;have ew:w64 ((h.AJ.length:Int)-1)=(h.AJ.length:Int)-1:=A7 (by omega) (by omega);have G:∀b,(q.B0<h.AJ.length\/b=true)->Mo h q b=some (if b=true then 4
  else if inB q.BL 1 h.AQ.BL=false then 5
  else if h.AQ.Cd<=q.DS then 6
  else if inB q.Id 1 999=false then 7
  else if 0<=GN h q.Id then 8
  else if h.AQ.Room<=Da h.AG q.AZ then 9
  else if 0<=q.B0/\Kk h q.B0<q.BL then 10
  else if 1000000<h.A5 then 11 else 0):=by
  intro b j;unfold Mo jm JY;cases b with
  |true=>rfl|false=>
   have hF:q.B0<h.AJ.length:=by simpa using j
   have H:0<=q.B0->rS h q.B0=some (Kk h q.B0):=λc=>mP c hF
   simp only[BW,Fv,AB,BG,Bu,BJ,if_false,ge_iff_le,gt_iff_lt,decide_eq_true_eq,HW e,Rk (show h.AG.length<2 ^ 58 by omega),AV,bne_iff_ne,ne_eq];by_cases c:0<=q.B0
   .grind[AB]
   .grind
 grind[YM,AB,Fv,Bu,AV,YP,B9]
theorem cK(j:Bt h)(id:Int) :
 (bd (NT h id) λa=>
 br (decide (a<0))
  (some 7)
  (bd (at? h.AG a) λc=>
  br (c.State != 2)
   (some 13)
   (bd (at? h.AG a) λe=>
   bd (ACW e h.Now) λg=>
   br g
    (some 14)
    (jn JY ()))))=some (K4 h id):=by
 unfold K4;rw[HW j,AB,BX]
 grind[ZG,R6,AB,ATX,Bu,JY,AV]
theorem HY(G:Bt h)(q:Bq):TL h q=some (verdict h q):=by
 unfold TL verdict;rw[Fz G,AB,BG,Bu];by_cases g:DC h=true
 .have hR:=G0.1 g;have X:=hR.len;have Y:=hR.now;have ew:w64 ((h.AJ.length:Int)-1)=(h.AJ.length:Int)-1:=A7 (by omega) (by omega);rw[AW g,AW g];unfold IG;rw[Fv,AB,BG,Bu];cases inB q.Kind 1 7
  .rfl
  .simp only[if_true,Dd,if_false];rw[mO,AB,BG,Bu];cases ha:KJ q
   .rfl
   .have ⟨l1,l3,l7⟩:=AIE ha;have j:JY ()=some 0:=rfl;simp only[if_true,Dd,if_false];by_cases a:q.Kind=1
    .rw[AW a,Bu,AW (by simpa using a)];exact AG4 hR (l1 a).1 (l1 a).2
    rw[AT a,Bu,AT (by simpa using a)];by_cases H:q.Kind=2
    .rw[AW H,Bu,AW (by simpa using H),HW G,AB,BX,AV,j];split<;>rfl
    rw[AT H,Bu,AT (by simpa using H)];by_cases y:q.Kind=3
    .have hc:=l3 y;rw[AW y,Bu,AW (by simpa using y),YM,AB,ew,Fv,AB,BG,BG,Bu,Bu,AV,j];by_cases Q:(h.AJ.length:Int)<=q.AZ
     .rw[AT (by rw[B9];omega),AW Q]
     .rw[AW (by rw[B9];omega),AT Q,mP hc (by omega),AB,BX];cases inB q.BL 1 60<;>simp<;>split<;>rfl
    rw[AT y,Bu,AT (by simpa using y)];unfold jo;by_cases Z:q.Kind=4\/q.Kind=5
    .rw[AW Z];have:(q.Kind==4)=true\/(q.Kind==4)=false/\(q.Kind==5)=true:=by grind
     rcases this with e|⟨e,J⟩
     .rw[e,BQ,AV,BQ];exact cK G q.Id
     .rw[e,J,BW,AV,BQ];exact cK G q.Id
    .have e4:(q.Kind==4)=false:=by grind
     have J:(q.Kind==5)=false:=by grind
     rw[AT Z,e4,J,BW,AV,BW,Bu];by_cases I:q.Kind=6
     .rw[AW (by simpa using I),AW I,Bu,AV,j];by_cases c:1000000<=h.Now
      .rw[AW (by simp;omega),AW c]
      .rw[AT (by simp;omega),AT c]
     .rw[AT (by simpa using I),AT I,Bu];by_cases B:q.Kind=7
      .rw[AW (by simpa using B),AW B,BX];by_cases E:h.AQ.C7<=q.Id
       .rw[AW E,AW E]
       .rw[AT E,AT E];have ⟨n,hn⟩:=Ai (l7 B);have O:n<h.BD.length:=by have:=hR.Oi;omega
        have L:=CG.1 hR.F9 _ (Ak O);rw[B9]at L;rw[hn,BM O,AB,Ag,BC,AR O,DH];unfold jq;simp only[Bu,AV,beq_iff_eq,j];by_cases S:h.BD[n] = -1
        .have:h.BD[n]<0:=by omega
         by_cases h3:h.BF.length=0<;>simp[S,h3,this]
        .have:¬h.BD[n]<0:=by omega
         simp[S,this]
      .rw[AT (by simpa using B),AT B,AV,j]
 .rw[AT g,AT g]
theorem WX{l:List α}(a:0<=k)(c:k<l.length)(v:α):at? (l.set k.toNat v) k=some v:=by
 grind[BM]
def RH.AXy(hR:RH h)(c:0<=k)(e:k<h.AJ.length):LU (cbn h k).Row=true/\(cbn h k).Row.length<=10:=by
 obtain⟨n,rfl⟩:=Ai c;have a:=hR.cb (i:=n) (by omega);have q:=CO hR.rules;have j:=a.room;have g:=R8 h.AQ h.AG n h.Now;rw[a.row];exact⟨AEN hR.Ig (by omega),by omega⟩
def RH.AL6(hR:RH h)(a:0<=k)(c:k<h.AJ.length):FT (cbn h k):=hR.fit.ES _ (Vd a c)
theorem AHZ(hR:RH h)(c:0<=GN h id)(q:(par h id).State=2):R4 ⟨(par h id).DO,id⟩=true/\(par h id).Id=id:=by
 have a:=hR.one c;have e:=FF a.okp;have j:=CO hR.rules;have g:=a.pid
 grind[R4,B9]
theorem AMX(c:Bt h)(id cb fr sz tr:Int):AJq h id cb fr sz tr=some (cM h id cb fr sz tr):=by
 unfold AJq jy cM;rw[HP c,AB,HY c,AB];simp only[Bu,bne_iff_ne,ne_eq];by_cases a:verdict h ⟨1,id,cb,fr,sz,tr⟩=0
 .rw[AT (not_not_intro a),AT (not_not_intro a)];have ⟨hJ,_,_,_⟩:=sM a;have hR:=Gx a;have g:=(AIE (Q8 a).2).1 rfl;dsimp only at g;have ⟨H,q,y,G⟩:=Y9 a;have I:=c.Ds;have j:=hR.AXy q y;have ec:at? h.AJ cb=some (cbn h cb):=F4 q y;have hJl:(NG h id cb fr sz tr).AJ.length=h.AJ.length:=by unfold NG;dsimp only;split<;>simp[Eb,Jh,HL,Cv]
  have hJr:=hJ.AXy (k:=cb) q (by rw[hJl];exact y);have e:(cbn (NG h id cb fr sz tr) cb).Row=put ltE (FL h.AQ (IH h id cb fr sz tr) h.Now).1 (cbn h cb).Row:=by
   grind[NG,AAK,cbn,HL,IH,Jh,Cv]
  rw[e]at hJr;rw[Pu c.CR,AB,Ni (by omega),AB];simp only[ec,AB];have E:=VG (l:=(cbn h cb).Row) (by omega) (FL h.AQ (IH h id cb fr sz tr) h.Now).1;rw[AW ⟨j.1,hJr.1⟩]at E;show bd (rU (cbn h cb).Row (FL h.AQ (IH h id cb fr sz tr) h.Now).1) _=_;rw[E,AB];unfold NG;dsimp only;by_cases B:0<=fr
  .have hX:at? (h.AJ.set cb.toNat ⟨(cbn h cb).AX,put ltE (FL h.AQ (IH h id cb fr sz tr) h.Now).1 (cbn h cb).Row,(cbn h cb).B6⟩) fr=some (cbn (HL ⟨h.AQ,h.Now,w64 (h.A5+1),Lb h.AG (IH h id cb fr sz tr),h.AJ,h.BF,h.BD⟩ (IH h id cb fr sz tr)) fr):=
    F4 (h:=HL ⟨h.AQ,h.Now,w64 (h.A5+1),Lb h.AG (IH h id cb fr sz tr),h.AJ,h.BF,h.BD⟩ (IH h id cb fr sz tr)) B (by simp only[HL,Cv,List.length_set];exact G)
   rw[ifP,AW B,hX];simp only[AB,pC,AV,Ib c.todo];rfl
  .rw[ifN,AT B];simp only[AB,AV,Ib c.todo];rfl
 .rw[AW a,AW a]
def AK7{p:AU}(c:p.Id=id)(e:-1<=p.B0)(h:p.B0<g.AJ.length)(j:g.AG.length<=1048576) :
 (if p.B0 = -1 then some (O4 g (g.AG.eraseP λx=>x.Id==id)) else some (O4 (Cv g p.B0 ⟨(l8 (cbn g p.B0).AX p.BL 0 0 0 (-1)).1,(cbn g p.B0).Row,(cbn g p.B0).B6⟩) (g.AG.eraseP λx=>x.Id==id)))=some (gone g p):=by
 unfold gone;rw[c];dsimp only;by_cases a:0<=p.B0
 .rw[ifN,AW a];rfl
 .rw[ifP,AT a];rfl
theorem ADh(e:Bt h)(id:Int):AJs h id=some (PG h id):=by
 unfold AJs PG;rw[HP e,AB,HY e,AB];simp only[Bu,bne_iff_ne,ne_eq];by_cases E:verdict h ⟨2,id,0,0,0,0⟩=0
 .rw[AT (not_not_intro E),AT (not_not_intro E)];have ⟨Q,p0⟩:=UF E;have hR:=G0.1 Q;have I:=hR.one p0;have c:=I.size;have J:=hR.len;have X:=FF I.okp;have H:=I.pid;have y:∀g:AE,g.AJ.length=h.AJ.length->g.AG=h.AG->Xa id (par h id) g=some (gone g (par h id),0):=by
   intro g S q;have a:=AK7 (g:=g) (p:=par h id) H (by omega) (by omega) (by rw[q];exact e.CR);unfold Xa j9;have B:XZ g.AG id=some (g.AG.eraseP λx=>x.Id==id):=Pt (by rw[q];exact e.CR) id;simp only[Bu,bne_iff_ne,ne_eq,AV];by_cases G:(par h id).B0 = -1
   .rw[AT (not_not_intro G),B,AB];rw[AW G]at a;rw[<-Option.some.inj a];rfl
   .have ef:at? g.AJ (par h id).B0=some (cbn g (par h id).B0):=F4 (by omega) (by omega);rw[AW G];simp only[ef,AB,NF,B];rw[AT G]at a;rw[<-Option.some.inj a];rfl
  have ec:at? h.AJ (par h id).AZ=some (cbn h (par h id).AZ):=F4 c.2.1.1 (by omega);have j:=hR.AL6 c.2.1.1 (by omega);simp only[HW e,AB,RL p0,Gq,ec,beq_iff_eq,AV];unfold cancelled;dsimp only;by_cases s1:(par h id).State=1
  .rw[AW s1,ifN,VF j.1,AB];exact y (UD h (par h id).AZ id) (by simp[UD,Cv]) rfl
  .have O:(par h id).State=2:=by omega
   have L:=AHZ hR p0 O;rw[AT s1,AW O,Pw j.2 L.1,AB];simp only[WX c.2.1.1 (show (par h id).AZ<(h.AJ.length:Int) by omega),AB,Th,Ib e.todo,FW];have:=y (Eb (dropped h (par h id)) (Q5 (dropped h (par h id)).BF (par h id).AZ)) (by simp[Eb,dropped,Cv]) rfl;rw[<-this];unfold dropped;rw[L.2];rfl
 .rw[AW E,AW E]
theorem mE(c:Bt h)(k n:Int):AJi h k n=some (bu h k n):=by
 unfold AJi bu;rw[HP c,AB,HY c,AB];simp only[Bu,bne_iff_ne,ne_eq];by_cases a:verdict h ⟨3,0,k,0,n,0⟩=0
 .rw[AT (not_not_intro a),AT (not_not_intro a)];have ⟨j,e,g⟩:=SN a;have ec:at? h.AJ k=some (cbn h k):=F4 e g;simp only[ec,AB,Ti,Ib c.todo];rfl
 .rw[AW a,AW a]
theorem APC{X:AE}{p:AU}(a:0<=p.B0)(c:p.B0<X.AJ.length):cbn (gone X p) p.B0=⟨(l8 (cbn X p.B0).AX p.BL 0 0 0 (-1)).1,(cbn X p.B0).Row,(cbn X p.B0).B6⟩:=by
 grind[gone,I6]
theorem ADf(g:Bt h)(id:Int):AJk h id=some (O9 h id):=by
 unfold AJk O9 jh;rw[HP g,AB,HY g,AB];simp only[Bu,bne_iff_ne,ne_eq];by_cases e:verdict h ⟨4,id,0,0,0,0⟩=0
 .rw[AT (not_not_intro e),AT (not_not_intro e)];have ⟨G,p0⟩:=UE e;have hR:=G0.1 G;have H:=hR.one p0;have c:=H.size;have B:=hR.len;have E:=(UH ((Gw e).2.2.2.1 (.inl rfl))).2;dsimp only at E;have j:=AHZ hR p0 E;have ec:at? h.AJ (par h id).AZ=some (cbn h (par h id).AZ):=F4 c.2.1.1 (by omega);have q:=hR.AL6 c.2.1.1 (by omega);have y:XZ h.AG id=some (h.AG.eraseP λx=>x.Id==id):=Pt g.CR id;simp only[HW g,AB,RL p0,Gq,ec,mN,WX c.2.1.1 (show (par h id).AZ<(h.AJ.length:Int) by omega),Pw q.2 j.1,y,FW,AV];have hXl:(P1 h (par h id)).AJ.length=h.AJ.length:=by simp[P1,Cv]
  have hX:(P1 h (par h id)).AJ=h.AJ.set (par h id).AZ.toNat ⟨(l8 (cbn h (par h id).AZ).AX (par h id).BL 0 (-1) 1 0).1,(cbn h (par h id).AZ).Row,(U4 (cbn h (par h id).AZ).B6 ⟨(par h id).DO,id⟩).1⟩:=by unfold P1 Cv;rw[j.2]
  rw[<-hX];unfold accepted;dsimp only;by_cases a:0<=(par h id).B0
  .have ef:at? (P1 h (par h id)).AJ (par h id).B0=some (cbn (P1 h (par h id)) (par h id).B0):=F4 a (by omega);rw[ifP,AW a,ef];simp only[AB,NF,WX a (show (par h id).B0<((P1 h (par h id)).AJ.length:Int) by omega),Ti,Ib g.todo,FW];unfold TW;rw[APC a (by omega)];unfold gone Cv;simp only[AW a,FW,j.2];rfl
  .rw[ifN,AT a];unfold gone;simp only[AT a,j.2];rfl
 .rw[AW e,AW e]
theorem VJ(hR:RH h)(p0:0<=GN h id)(Z:(par h id).State=2):ACU h id=some (I9 h (par h id)):=by
 have y:=hR.fit;have X:=hR.one p0;have E:=X.size;have S:=hR.len;have hs:=y.Ds;have H:=AHZ hR p0 Z;have c:=E.2.1.1;have a:(par h id).AZ<(h.AJ.length:Int):=by omega
 have ec:at? h.AJ (par h id).AZ=some (cbn h (par h id).AZ):=F4 c a;have J:=hR.AL6 c a;have O:XZ h.AG id=some (h.AG.eraseP λx=>x.Id==id):=Pt y.CR id;unfold ACU ji;simp only[HW y,AB,RL p0,Gq,ec,Th,WX c a,Pw J.2 H.1,ADk (show h.AQ.AX.length<2 ^ 62 by omega),FW,Bu,AV,O];have hXl:(dropped h (par h id)).AJ.length=h.AJ.length:=by simp[dropped,Cv]
 have hX:(dropped h (par h id)).AJ=h.AJ.set (par h id).AZ.toNat ⟨(l8 (cbn h (par h id).AZ).AX (par h id).BL 1 (-1) 0 0).1,(cbn h (par h id).AZ).Row,(U4 (cbn h (par h id).AZ).B6 ⟨(par h id).DO,id⟩).1⟩:=by unfold dropped Cv;rw[H.2]
 have hF:=Xv hR X Z;by_cases q:(E2 h.AQ (par h id) h.Now).2=true
 .have j:=bt q;have e:I9 h (par h id)=HL (O4 (dropped h (par h id)) (Lb h.AG (E2 h.AQ (par h id) h.Now).1)) (E2 h.AQ (par h id) h.Now).1:=by unfold I9;rw[AW q]
  have hrowX:cbn (dropped h (par h id)) (par h id).AZ=⟨(l8 (cbn h (par h id).AZ).AX (par h id).BL 1 (-1) 0 0).1,(cbn h (par h id).AZ).Row,(U4 (cbn h (par h id).AZ).B6 ⟨(par h id).DO,id⟩).1⟩:=by
   unfold dropped;rw[I6 c a c,AW rfl,H.2]
  have Q:=hR.AXy c a;have B:=hF.AXy c (by rw[(RU h _).Dz];exact a);have e2:(cbn (I9 h (par h id)) (par h id).AZ).Row=put ltE (FL h.AQ (E2 h.AQ (par h id) h.Now).1 h.Now).1 (cbn h (par h id).AZ).Row:=by
   rw[e];unfold HL;rw[j,I6 c (by show (par h id).AZ<((dropped h (par h id)).AJ.length:Int);omega) c,AW rfl];show put ltE _ (cbn (dropped h (par h id)) (par h id).AZ).Row=_;rw[hrowX];rfl
  rw[e2]at B;have Y:=VG (l:=(cbn h (par h id).AZ).Row) (by omega) (FL h.AQ (E2 h.AQ (par h id) h.Now).1 h.Now).1;rw[AW ⟨Q.1,B.1⟩]at Y;simp only[q,if_true,Pu y.CR,AB,Ni (show h.AQ.AX.length<2 ^ 62 by omega),Y];rw[e];unfold HL;rw[j]
  grind[Cv,O4,dropped,par,cbn,put,ltE,List.set_set]
 .have I:(E2 h.AQ (par h id) h.Now).2=false:=by simpa using q
  have e:I9 h (par h id)=gone (dropped h (par h id)) (par h id):=by unfold I9;rw[AT q]
  have L:=AK7 (g:=dropped h (par h id)) (p:=par h id) H.2 E.2.2.1.1 (by omega) y.CR;rw[e,<-L];simp only[I,BJ,if_false,<-hX,bne_iff_ne,ne_eq];by_cases G:(par h id).B0 = -1
  .rw[AT (not_not_intro G),AW G];rfl
  .have ef:at? (dropped h (par h id)).AJ (par h id).B0=some (cbn (dropped h (par h id)) (par h id).B0):=F4 (by omega) (by omega);rw[AW G,AT G,ef];simp only[AB,NF];rfl
theorem xS(c:Bt h)(id:Int):AJm h id=some (Mr h id):=by
 unfold AJm Mr;rw[HP c,AB,HY c,AB];simp only[Bu,bne_iff_ne,ne_eq];by_cases a:verdict h ⟨5,id,0,0,0,0⟩=0
 .rw[AT (not_not_intro a),AT (not_not_intro a)];have ⟨g,p0⟩:=Sb a;have hR:=G0.1 g;have e:=(UH ((Gw a).2.2.2.1 (.inr rfl))).2;dsimp only at e;have hF:=Xv hR (hR.one p0) e;simp only[HW c,AB,RL p0,VJ hR p0 e,Ib hF.fit.todo];rfl
 .rw[AW a,AW a]
def AOh{n:Nat}{x:AE}(H:Sm n h)(J:x.AJ.length=h.AJ.length)(q:∀c:Int,Da h.AG c<=19)(Q:n+h.AJ.length<=1048576):A9 (XW x) big (0,h)=some (LX h.AJ.length 0 h,0):=by
 generalize a:h.AJ.length=len at *;refine(DK (F:=XW x) (n:=len) (λi (v:AE)=>((i:Int),v)) (λi v=>Sm (n+i) v/\v.AJ.length=len/\v.AG=h.AG) (λi v=>some (LX (len-i) i v,0)) (by omega) ?_ (v:=h) ⟨H,a,rfl⟩).trans (by rw[FX]);intro L i v ⟨G,E,g⟩ hi O;have y:=G.fit (by omega);unfold XW;dsimp only;rw[J];rcases Aa i len with j|j
 .have S:=y.Ds;have I:=y.CR;rw[CF j,BQ,Ro (by omega) I (by rw[g];exact q _),AB,F4 (by omega) (by omega),AB,AB,Rk (by omega),AB];have e:LX (len-i) i v=LX (len-(i+1)) (i+1) (Ly v i):=by rw[show len-i=(len-(i+1))+1 by omega];rfl
  rw[e];have B:=O (Ly v i) ⟨by have:=oO G i;rw[Nat.add_assoc]at this;exact this,by rw[tW];exact E,by rw[AE3.Ig];exact g⟩ j;rw[<-B];unfold jj Ly;simp only[BX,gt_iff_lt,AV,Bv j (show len<2 ^ 63 by omega),Ag,Ib y.todo,AB];split<;>rfl
 .have:i=len:=by omega
  subst this;rw[C2,BW,AV,Nat.sub_self];rfl
theorem AMd(g:Bt h):AJn h=some (dG h):=by
 unfold AJn dG;rw[HP g,AB,HY g,AB];simp only[Bu,bne_iff_ne,ne_eq];by_cases e:verdict h ⟨6,0,0,0,0,0⟩=0
 .have hR:=Gx e;have a:=hR.sm;have j:=hR.len;have y:=CO hR.rules;have q:Sm 1000 ⟨h.AQ,w64 (h.Now+1),h.A5,h.AG,h.AJ,h.BF,h.BD⟩:=⟨a.Ds,a.CR,a.Dz,a.ES,a.todo,a.F9⟩;rw[AT (not_not_intro e),AT (not_not_intro e)];exact AOh (x:=h) q rfl (λc=>by have:=hR.cnt c;show Da h.AG c<=19;omega) (by show 1000+h.AJ.length<=1048576;omega)
 .rw[AW e,AW e]
theorem xY{w:A3}(a:Dc w)(now:Int):AJz w now=some ((E8 w).filter λp=>decide (p.At<=now)):=by
 have hlim:=Acx;have c:=Ih a;unfold AJz;rw[PU a,AB,collect (l:=E8 w) (λp=>if p.At<=now then some p else none) some c ?_ ?_]
 .congr 1;generalize E8 w=l
  induction l<;>grind
 .grind[kQ,kP,BM,AB,BX,AV,CD]
 grind[kQ,ACm,BW,AV]
def VK(hR:RH h){k:Nat}(c:k<h.AJ.length):ACV h k=some true:=by
 have a:=hR.len;unfold ACV jk;rw[Fz hR.fit,G0.2 hR,AB,BQ,YM,AB,AV,A7,B9.2 (by omega)]
theorem AGz(hR:RH h){k:Nat}(c:k<h.AJ.length):AJ0 h k=some (lL (cbn h k).B6 h.Now):=by
 have hlim:=Acx;have a:=(hR.AL6 (k:=(k:Int)) (by omega) (by omega)).2;have e:=Ih a;unfold AJ0;rw[VK hR c,AB,BG,BQ,show at? h.AJ (k:Int)=some (cbn h k) from F4 (by omega) (by omega),AB,xY a,AB];generalize hD:(E8 (cbn h k).B6).filter (λp=>decide (p.At<=h.Now))=D;have hDl:D.length<=1048576:=by rw[<-hD];exact Av (List.length_filter_le _ _) e
 rw[collect (l:=D) (λp=>some p.Id) some hDl ?_ ?_]
 .unfold lL;rw[<-hD];congr 1;generalize E8 (cbn h k).B6=l
  induction l<;>grind
 .grind[kR,BQ,BM,AB,CD]
 grind[kR,ACn,BW,AV]
def ADj(hR:RH h){k:Nat}(g:k<h.AJ.length):AJ1 h k=some (Xu h k):=by
 have ⟨hO,E⟩:=TS hR g;unfold AJ1 Xu;rw[HP hR.fit,AB,AGz hR g,AB];generalize lL (cbn h k).B6 h.Now=D at *;refine(DK (F:=kS D) (n:=D.length) (λi (v:AE)=>((i:Int),v)) (λi v=>RH v/\ALz v (D.drop i)) (λi v=>some (Ub (D.drop i) v)) (by omega) ?_ (v:=h) ⟨hR,hO⟩);rintro L i v ⟨j,c⟩ hi y;unfold kS ACo;dsimp only;rcases Aa i D.length with a|q
 .rw[Dt a]at c ⊢;have e:=c.2 D[i] (BK ..);have ⟨s1,B,_⟩:=Vl j c;simp only[CF a,BQ,BM a,AB,VJ j e.1 e.2,Bv a (show D.length<2 ^ 63 by omega)];exact y _ ⟨s1,B⟩ a
 .obtain rfl:i=D.length:=by omega
  rw[C2,BW,AV,Cq];rfl
theorem xd(p:AU)(now:Int):AJ2 p now=some (cW p now):=by
 unfold AJ2 kU cW;rw[AV,AV,Ck]
theorem pA(a:l.length<=1048576){skip:List Int}(c:skip.length<=1048576)(free:Int):AJ3 l free skip=some (atF (ADS free skip) l 0):=by
 unfold AJ3 APp;rw[RJ (l:=l) (p:=ADS free skip) (by omega) ?_ ?_,AB]
 .intro L i h;unfold kW APo kV ADS
  grind[BQ,BM,AB,Ps,AV,Ck]
 grind[kW,ACp,BW,AV]
theorem mF(hR:RH h){k:Nat}(e:k<h.AJ.length):AJ4 h k=some (FE h k):=by
 have hlim:=Acx;have c:=hR.fit;have a:=c.CR;have j:(nj h).length<=1048576:=Av (List.length_filterMap_le _ _) a;have g:=(hR.AL6 (k:=(k:Int)) (by omega) (by omega)).1;unfold AJ4;rw[VK hR e,AB,BG,BQ,collect (l:=h.AG) (λp=>if cW p h.Now=true then some p.Id else none) (kY h k) a ?_ ?_]
 .grind[kY,at?,cbn,AB,nj,pA,VM,FE,BX,uE]
 .grind[kZ,kX,BM,AB,xd,Bu,AV,CD]
 grind[kZ,BW,AV]
theorem AG0(hR:RH h){k:Nat}(g:k<h.AJ.length):AJ6 h k=some (if FE h k=0 then (h,0) else (JD h k (FE h k),FE h k)):=by
 have a:=hR.fit;unfold AJ6;rw[HP a,AB,mF hR g,AB,Bu];by_cases c:FE h k=0
 .grind
 .have ⟨j,q,y,B,E⟩:=mw hR g c;have e:=hR.AL6 (k:=(k:Int)) (by omega) (by omega);have ec:at? h.AJ (k:Int)=some (cbn h k):=F4 (by omega) (by omega);rw[AT (by simpa using c),AT c];simp only[HW a,AB,RL j,Gq,ec,mM,WX (show 0<=(k:Int) by omega) (show (k:Int)<(h.AJ.length:Int) by omega),VF e.1,Pu a.CR,FW,VI e.2];rfl
theorem AOM(hR:RH h){k:Nat}(y:k<h.AJ.length):A9 (Xd k) big ([],h)=some (Oy k 10 h []):=by
 have hlim:=Acx;refine aW (F:=Xd k) (λx=>some (Oy k (10-x.1.length) x.2 x.1)) (λx=>RH x.2/\k<x.2.AJ.length/\x.1.length+(cbn x.2 k).Row.length<=10) (λx=>(cbn x.2 k).Row.length) ?_ (x:=([],h)) ⟨hR,y,by have:=eQ hR y;simpa using this⟩ (by have:=eQ hR y;show (cbn h k).Row.length<_;omega);rintro L ⟨a,g⟩ ⟨q,c,e⟩ E;dsimp only at q c e E ⊢;unfold Xd;dsimp only;rw[AG0 q c,AB];by_cases j:FE g k=0
 .grind[ALi,BQ]
 .have ⟨s1,H⟩:=V4 q c j;have B:=AD2 j;rw[AT j];dsimp only;have G:(FE g k==0)=false:=by simpa using j
  rw[G,BW,CD (by simp only[AI,AM];omega),E (a++[FE g k],JD g k (FE g k)) ⟨s1,by rw[(Ry g k _).Dz];exact c,by simp only[AH,AI,AM];omega⟩ (by dsimp only;omega)];congr 1;rw[show 10-a.length=(10-(a++[FE g k]).length)+1 by simp only[AH,AI,AM];omega]
  conv=>rhs;unfold Oy
  rw[AT j]
def AMa(hR:RH h){k:Nat}(a:k<h.AJ.length):AJ7 h k=some (Kb h k):=by
 have ⟨c,e⟩:=RT hR (TS hR a).1;unfold AJ7;rw[ADj hR a,AB];exact AOM c (by rw[e.Dz];exact a)
theorem AMZ(q:Bt h)(who:Int):AJ8 h who=some (VO h who):=by
 unfold AJ8 VO;rw[HP q,AB,HY q,AB];simp only[Bu,bne_iff_ne,ne_eq,beq_iff_eq];by_cases a:verdict h ⟨7,who,0,0,0,0⟩=0
 .rw[AT (not_not_intro a),AT (not_not_intro a)];have hR:=Gx a;have G:=hR.len;have ⟨n,c,e,L⟩:=SO rfl a;dsimp only at e;subst e;have eg:h.BD.getD n 0=h.BD[n]:=by rw[BC,AR c];rfl
  have y:=CG.1 hR.F9 _ (Ak c);rw[B9]at y;unfold V7;simp only[BM c,AB,Ag,eg];by_cases g:h.BD[n]<0
  .have j:h.BD[n] = -1:=by omega
   rw[AW j,AW g];have H:0<h.BF.length:=by
    grind
   have I:h.BF.getD 0 0=h.BF[0]:=by rw[BC,AR H];rfl
   have O:=q.todo;have J:List.take (h.BF.length-Int.toNat 1) (List.drop (Int.toNat 1) h.BF)=h.BF.drop 1:=BE (by rw[BI];exact Ab _);rw[WY,AR H,AB,AB,CD ⟨by omega,by omega⟩,I,J];rfl
  .have j:¬h.BD[n] = -1:=by omega
   rw[AT j,AT g];have ⟨k,E,ek⟩:=hR.job c g;have ⟨s1,Q,S⟩:=WD hR E;have B:n<(Kb h k).1.BD.length:=by rw[Q.F9];exact c
   rw[ek,AMa hR E,AB,BM B,AB,AB];rfl
 .rw[AW a,AW a]
theorem AXO(a:Bt h)(q:Bq):AJ9 h q=some (doF h q):=by
 grind[AJ9,doF,Mp,HP,HY,AB,AMX,ADh,mE,ADf,xS,AMd,AMZ,Bu,AV]
theorem Rl(q:Bt h){l:List Bq}(G:l.length<=1048576):bm h l=some (Dr l h):=by
 have hlim:=Acx;unfold bm;rw[HP q,AB];refine(DK (F:=kb l) (n:=l.length) (λi (v:List CA×AE)=>(v.1,(i:Int),v.2)) (λi v=>Bt v.2/\v.1.length=i) (λi v=>some ((Dr (l.drop i) v.2).1,v.1++(Dr (l.drop i) v.2).2)) (by omega) ?_ (v:=([],h)) ⟨q,rfl⟩).trans ?_
 .rintro L i ⟨a,g⟩ ⟨e,j⟩ hi y;dsimp only at e j y ⊢;unfold kb ACq;dsimp only;rcases Aa i l.length with c|E
  .have B:=y4 e l[i];rw[Dt c];simp only[CF c,BQ,BM c,AB,AXO e,Bv c (show l.length<2 ^ 63 by omega)];rw[CD (by simp only[AI,AM];omega)];have:=y (a++[(doF g l[i]).2],(doF g l[i]).1) ⟨B.2.1,by simp[j]⟩ c;dsimp only at this;rw[this];simp only[Dr,BR,List.singleton_append]
  .grind[BW,AV,Dr]
 .simp
structure G2(w:BV):Prop where
 MC:CY w.Ad
 done:w.Di.length<=1048576
 AVh:w.Cc.length<=1048576
 ids:∀r∈w.Cc,r.Ids.length<=1048576
def D4(r:AY):BV×Bool:=if (Fl r).2=true then (⟨(Fl r).1,[],[],0⟩,true) else (⟨Ka,[],[],0⟩,false)
def V2(a:r.AX.length<=1048576):ABP r=some (D4 r):=by
 unfold ABP D4;rw[ADz a,AB,BG,Bu];split<;>rfl
def mu(a:r.AX.length<=1048576):ABQ r=some (D4 r):=by
 unfold ABQ D4;rw[ADy a,AB,BG,Bu];split<;>rfl
theorem ZB(e:r.AX.length<=1048576):G2 (D4 r).1:=by
 have a:=VC e;unfold D4;split
 .exact⟨a,by simp,by simp,by simp⟩
 .rename_i c;unfold Fl at a c;split at a
  .grind
  .exact⟨a,by simp,by simp,by simp⟩
def M4(a:Bp):Bp:=if Ev a=true then ⟨a.Data,a.Data.length⟩ else a
theorem OD(a:Bp):rO a=some (M4 a):=by
 grind[rO,jO,M4,IK,AB,Bu,AV]
def aH(a:Bp):bV a=some (M4 a):=by
 unfold bV M4;rw[FB,AB,BG,Bu];split<;>rfl
def Lw(e:Az):Az×List CA:=
 if DB e=false then (e,[]) else (⟨(Dr e.Laid e.Ax).1,⟨M4 e.Aq.Log,e.Aq.Ec,e.Aq.Odd⟩,e.Seq,[]⟩,(Dr e.Laid e.Ax).2)
theorem AOa(a:CY e):AJS e=some (Lw e):=by
 unfold AJS Lw;rw[GL a,AB,F3 a,AB,BG,Bu];by_cases c:DB e=true
 .rw[AW c,AT (by simp[c]),SD a.EW a.laid,AB,OD,AB]
 grind
theorem AMb(a:CY e):AKA e=some (Lw e):=by
 unfold AKA Lw;rw[OO a,AB,Iw a,AB,BG,Bu];by_cases c:DB e=true
 .rw[AW c,AT (by simp[c]),aH,AB,Rl a.EW a.laid,AB]
 grind
def O1(a:Bp):(M4 a).Data=a.Data:=by unfold M4;split<;>rfl
theorem tJ(a:CY e):CY (Lw e).1/\(Lw e).2.length<=1048576/\∀r∈(Lw e).2,r.Ids.length<=1048576:=by
 unfold Lw;split
 .grind
 .have ⟨c,j,g⟩:=ID e.Laid a.EW;have q:=a.laid;exact⟨⟨c,by dsimp only;rw[O1];exact a.log,a.even,a.odd,by simp⟩,by dsimp only;omega,λr h=>by have:=g r h;omega⟩
theorem mW{q:Bq}(h:(KC e q).2≠0):(KC e q).1=e:=by
 unfold KC at h ⊢
 grind
theorem Ug{q:Bq}(h:(KC e q).2=0):DB (KC e q).1=true/\DB e=true/\KJ q=true/\(KC e q).1.Ax=e.Ax/\(KC e q).1.Laid=e.Laid++[q]/\(KC e q).1.Seq=e.Seq+1:=by
 unfold KC at h ⊢;by_cases a:DB e=false
 .rw[AW a]at h;cases h
 rw[AT a]at h ⊢;rw[Et]at a;by_cases c:KJ q=false
 .rw[AW c]at h;cases h
 rw[AT c]at h ⊢;rw[Et]at c;by_cases j:e.Seq=1000000
 .rw[AW j]at h;cases h
 rw[AT j]at h ⊢;by_cases g:e.Laid.length=8\/(E1 e.Aq.Log (frB (w64 (e.Seq+1)) (FH q))).2=false
 .rw[AW g]at h;cases h
 rw[AT g];have B:=FU a;have ew:w64 (e.Seq+1)=e.Seq+1:=A7 (by omega) (by omega);rw[ew]at g ⊢;have y:Ev (E1 e.Aq.Log (frB (e.Seq+1) (FH q))).1=true:=by
  grind[E1,Dm]
 grind[DB,B9,GR]
def R9(a b:AY):Bool:=EJ (·==·) a.AX b.AX&&(a.Cd==b.Cd&&(a.Room==b.Room&&(a.BL==b.BL&&(a.CK==b.CK&&(a.B7==b.B7&&(a.Rest==b.Rest&&(a.Cl==b.Cl&&a.C7==b.C7)))))))
def nx{a b:AY}(c:a.AX.length<2 ^ 62):rK a b=some (R9 a b):=by
 unfold rK JX R9;rw[IM c,AB];simp only[AV,Ck]
def mK{a b:AY}(c:a.AX.length<2 ^ 62):AKO a b=some (R9 a b):=by
 unfold AKO KK R9;rw[Ms c,AB];simp only[AV,Ck]
def oe(a b:A3):Bool:=HO a&&(HO b&&EJ eqP (E8 a) (E8 b))
def ny{a b:A3}(c:Dc a)(e:Dc b):rL a b=some (oe a b):=by
 have g:=Ih c;unfold rL TH oe;simp only[He c,He e,M3 c,M3 e,P4 (show (E8 a).length<2 ^ 62 by omega),AB,AV,Ck]
def mL{a b:A3}(c:Dc a)(e:Dc b):AKQ a b=some (oe a b):=by
 have g:=Ih c;unfold AKQ Xt oe;simp only[Ic c,Ic e,PU c,PU e,cF (show (E8 a).length<2 ^ 62 by omega),AB,AV,Ck]
def AZW(a b:BO):Bool:=a.Total==b.Total&&(a.D7==b.D7&&(a.FQ==b.FQ&&(a.GB==b.GB&&(a.Gb==b.Gb&&true))))
def AAD(a b:Ah):Bool:=L0 a&&(L0 b&&(AZW a.AX b.AX&&(EJ eqE a.Row b.Row&&oe a.B6 b.B6)))
def nw{a b:Ah}(c:FT a)(e:FT b):rM a b=some (AAD a b):=by
 have g:=c.1;unfold rM OT AAD AZW;simp only[Nu c,Nu e,SH (show a.Row.length<2 ^ 62 by omega),ny c.2 e.2,AB,AV,Ck]
def mH{a b:Ah}(c:FT a)(e:FT b):AKR a b=some (AAD a b):=by
 have g:=c.1;unfold AKR QW AAD AZW;simp only[Rj c,Rj e,cE (show a.Row.length<2 ^ 62 by omega),mL c.2 e.2,AB,AV,Ck]
def AXE(x y:AU):Bool:=x.Id==y.Id&&(x.AZ==y.AZ&&(x.B0==y.B0&&(x.BL==y.BL&&(x.DS==y.DS&&(x.Since==y.Since&&(x.A5==y.A5&&(x.State==y.State&&(x.DO==y.DO&&(x.Du==y.Du&&true)))))))))
def aF(a b:AE):Bool:=
 DC a&&(DC b&&(R9 a.AQ b.AQ&&(a.Now==b.Now&&(a.A5==b.A5&&(EJ AXE a.AG b.AG&&(EJ (·==·) a.BF b.BF&&(EJ (·==·) a.BD b.BD&&EJ AAD a.AJ b.AJ)))))))
def mI{a b:AE}(c:Bt a)(g:Bt b):AKT a b=some (aF a b):=by
 have y:=c.Ds;have B:=c.CR;have E:=c.Dz;have G:=c.todo;have H:=c.F9;have j:AKS a.AJ b.AJ=some (EJ AAD a.AJ b.AJ):=by
  unfold AKS;refine Ow (by omega) ?_ ?_
  .intro L i h e;unfold kz;rw[CF h,BQ,BM h,AB,BM e,AB,mH (c.ES _ (Ak h)) (g.ES _ (Ak e)),AB]
  .intro L;unfold kz AC6;rw[C2,BW,AV]
 have q:AKP a.AG b.AG=some (EJ AXE a.AG b.AG):=by
  unfold AKP;refine Ow (by omega) ?_ ?_
  .intro L i h e;unfold ky;rw[CF h,BQ,BM h,AB,BM e,AB];rfl
  .intro L;unfold ky AC5;rw[C2,BW,AV]
 unfold AKT KL aF;simp only[Fz c,Fz g,mK (show a.AQ.AX.length<2 ^ 62 by omega),q,j,Ms (show a.BF.length<2 ^ 62 by omega),Ms (show a.BD.length<2 ^ 62 by omega),AB,AV,Ck]
def tI{eq:α->α->Bool}{a b:List α}{F:(Int->AA Bool)->Int->AA Bool}{E:Bool}(c:a.length<2 ^ 63)(e:a.length=b.length)
 (step:∀L i (h:i<a.length) (j:i<b.length),F L (i:Int)=br (!(eq a[i] b[i])) (some false) (L (w64 ((i:Int)+1)))) (stop:∀L,F L (a.length:Int)=some E):A9 F big 0=some (EJ eq a b&&E):=by
 refine(DK (n:=a.length) (λi (_:Unit)=>(i:Int)) (λ_ _=>True) (λi _=>some (EJ eq (a.drop i) (b.drop i)&&E)) c ?_ (v:=()) trivial);intro L i _ _ hi g;rcases Aa i a.length with h|h
 .rw[step L i h (by omega),Bv h c,Dt h,Dt (l:=b) (i:=i) (by omega),EJ,BG];cases eq a[i] b[i] with|true=>rw[BQ,g () trivial h];rfl|false=>rfl
 .obtain rfl:i=a.length:=by omega
  rw[stop,Cq,As (by omega)];rfl
theorem AHk{a b:AY}:R9 a b=true↔a=b:=by
 unfold R9;have ⟨s,c,e,a3,a4,g,h,j,q⟩:=a;have ⟨t,y,B,E,G,H,I,J,L⟩:=b
 grind[HR,AY.mk.injEq]
theorem T8{a b:AE}(c:Bt a)(E:Bt b):rN a b=some (aF a b):=by
 have O:=c.Ds;have Q:=c.CR;have S:=c.Dz;have X:=c.todo;have Y:=c.F9;have G:Io a b true=some false:=rfl;have J:DC a=true->DC b=true->R9 a.AQ b.AQ=true->a.AG.length=b.AG.length->Io a b false=some (EJ AXE a.AG b.AG&&EJ AAD a.AJ b.AJ):=by
  intro gA gB gR gp;have B:a.AJ.length=b.AJ.length:=by
   have j:=(G0.1 gA).Dz;have e:=(G0.1 gB).Dz;rw[j,e,AHk.1 gR]
  unfold Io;rw[BW];refine tI (by omega) gp ?_ ?_
  .intro L i h g;unfold XP;rw[CF h,BQ,BM h,AB,BM g,AB];rfl
  .intro L;unfold XP TI;rw[C2,BW,AV,<-CN (EJ AAD a.AJ b.AJ)];refine tI (by omega) B ?_ ?_
   .intro L i h g;unfold QU;rw[CF h,BQ,BM h,AB,BM g,AB,nw (c.ES _ (Ak h)) (E.ES _ (Ak g)),AB]
   .intro L;unfold QU jJ;rw[C2,BW,AV]
 unfold rN aF;rw[Gp c,AB,Gp E,AB,nx (by omega),AB,IM (by omega),AB,IM (by omega),AB];simp only[AV,G,BG];cases gA:DC a
 .rfl
 cases gB:DC b
 .rfl
 cases gR:R9 a.AQ b.AQ
 .rfl
 simp only[BQ,CU];by_cases n:a.Now=b.Now
 .by_cases t:a.A5=b.A5
  .by_cases p:a.AG.length=b.AG.length
   .have j:(a.Now != b.Now)=false:=by simp[n]
    have e:(a.A5 != b.A5)=false:=by simp[t]
    have q:((a.AG.length:Int) != (b.AG.length:Int))=false:=by simp[p]
    have H:(a.Now==b.Now)=true:=by simp[n]
    have y:(a.A5==b.A5)=true:=by simp[t]
    rw[j,e,q,H,y,BW,BW,BW,CU,CU];cases EJ (·==·) a.BF b.BF
    .simp
    .cases EJ (·==·) a.BD b.BD
     .simp[G]
     .rw[BQ,Bl,J gA gB gR p,CU,CU]
   .have q:((a.AG.length:Int) != (b.AG.length:Int))=true:=by simp;omega
    have I:EJ AXE a.AG b.AG=false:=nd p;rw[q,BQ,Wa,Wa,I];simp
  .have e:(a.A5 != b.A5)=true:=by simpa using t
   have y:(a.A5==b.A5)=false:=by simpa using t
   rw[e,BQ,Wa,y];simp
 grind[BQ]
def pG(a b:CA):Bool:=a.Code==b.Code&&EJ (·==·) a.Ids b.Ids
theorem T9{a b:CA}(c:a.Ids.length<=1048576):AC1 a b=some (pG a b):=by
 grind[AC1,kx,pG,IM,AB,AV,Ck]
theorem mJ{a b:CA}(c:a.Ids.length<=1048576):AKW a b=some (pG a b):=by
 grind[AKW,lD,pG,Ms,AB,AV,Ck]
theorem zH{a b:List CA}(e:a.length<=1048576)(c:∀r∈a,r.Ids.length<=1048576):AKU a b=some (EJ pG a b):=by
 unfold AKU;refine Ow (by omega) ?_ ?_
 .grind[lA,BQ,BM,AB,T9]
 grind[lA,AC7,BW,AV]
theorem aG{a b:List CA}(e:a.length<=1048576)(c:∀r∈a,r.Ids.length<=1048576):AKX a b=some (EJ pG a b):=by
 unfold AKX;refine Ow (by omega) ?_ ?_
 .grind[lE,BQ,BM,AB,mJ]
 grind[lE,AC8,BW,AV]
def bC(w:BV):Bool:=
 DB w.Ad&&(w.Ad.Seq==w64 ((w.Di.length:Int)+(w.Ad.Laid.length:Int))&&(aF (Dr w.Di (DV w.Ad.Ax.AQ).1).1 w.Ad.Ax&&EJ pG (Dr w.Di (DV w.Ad.Ax.AQ).1).2 w.Cc))
def AHx(c:G2 w):AKV w=some (bC w):=by
 have a:=c.MC;have e:=Ia a.EW.Ds;have ⟨g,q,h⟩:=ID w.Di e;have y:=c.done;unfold AKV lB lC bC;simp only[F3 a,mo a.EW.Ds,SD e c.done,T8 g a.EW,zH (show (Dr w.Di (DV w.Ad.Ax.AQ).1).2.length<=1048576 by omega) (λr j=>by have:=h r j;omega),AB,AV,Ck];cases DB w.Ad
 .rfl
 .simp only[bne,BG,BQ,CU,Bl];cases w.Ad.Seq==w64 ((w.Di.length:Int)+(w.Ad.Laid.length:Int))<;>rfl
def AG2(c:G2 w):AKY w=some (bC w):=by
 have a:=c.MC;have e:=Ia a.EW.Ds;have ⟨g,q,h⟩:=ID w.Di e;have y:=c.done;unfold AKY lF lG bC;simp only[Iw a,mn a.EW.Ds,Rl e c.done,mI g a.EW,aG (show (Dr w.Di (DV w.Ad.Ax.AQ).1).2.length<=1048576 by omega) (λr j=>by have:=h r j;omega),AB,AV,Ck];cases DB w.Ad
 .rfl
 .simp only[bne,BG,BQ,CU,Bl];cases w.Ad.Seq==w64 ((w.Di.length:Int)+(w.Ad.Laid.length:Int))<;>rfl
theorem RF(s:Bj):∃c,Jy s=some c/\VA s=some c/\(c = -1\/c=0\/c=1):=by
 have ⟨r,h,j,_⟩:=FR s 0;have ⟨r',q,y,_⟩:=FR s 1;unfold Jy VA TF XO TG;rw[h,j,q,y,AB,AB,AB,AB];cases e:r.2.2<;>cases g:r'.2.2<;>simp only[BG,BQ,BW,AV,e,g,Bl,ER]
 .grind
 .exact⟨_,rfl,rfl,by decide⟩
 .exact⟨_,rfl,rfl,by decide⟩
 .by_cases a:r.2.1>=r'.2.1
  .rw[show decide (r.2.1>=r'.2.1)=true from decide_eq_true a,show decide (r'.2.1>r.2.1)=false from decide_eq_false (by omega)];exact⟨_,rfl,rfl,by decide⟩
  .rw[show decide (r.2.1>=r'.2.1)=false from decide_eq_false a,show decide (r'.2.1>r.2.1)=true from decide_eq_true (by omega)];exact⟨_,rfl,rfl,by decide⟩
def Sj(s:Bj)(k:Int)(a:Bp):Bj:=if (k.tmod 2==0)=true then ⟨s.Log,a,s.Odd⟩ else ⟨s.Log,s.Ec,a⟩
def Nx(s:Bj)(k:Int)(a:Bp):AKC s k a=some (Sj s k a):=by unfold AKC Sj;rw[Bu,AV,AV];split<;>rfl
def xZ(s:Bj)(k:Int)(a:Bp):rY s k a=some (Sj s k a):=by unfold rY Sj;rw[Bu,AV,AV];split<;>rfl
def Qx(s:Bj)(l:Bp)(k:Int):Sj ⟨l,s.Ec,s.Odd⟩ k (Ci s k)=⟨l,s.Ec,s.Odd⟩:=by unfold Sj Ci;split<;>rfl
def NZ(a:Bp)(p:Int):Bp×Bool:=if Ev a=true/\inB p 0 a.Data.length=true/\a.Safe=a.Data.length then (⟨a.Data.drop p.toNat,(a.Data.length:Int)-p⟩,true) else (a,false)
theorem Ut(a:Bp)(p:Int):AKB a p=some (NZ a p):=by
 grind[AKB,Xe,NZ,IK,AB,GZ,AV,Bu,Ev,inB,CD,A7]
theorem AMc(a:Bp)(p:Int):AKD a p=some (NZ a p):=by
 grind[AKD,Xf,NZ,FB,AB,Fv,AV,Bu,Ev,inB,CD,A7]
theorem AOU(h:(NZ a p).2=false):(NZ a p).1=a:=by unfold NZ at h ⊢;grind
def tL(a:Bp)(p:Int):(NZ a p).1.Data.length<=a.Data.length:=by unfold NZ;split<;>simp
theorem zq{s:List UInt8}(h:(E1 a s).2=false):(E1 a s).1=a:=by unfold E1 at h ⊢;grind
def SB(a:CY e)(k:Int):(Ci e.Aq k).Data.length<=1048576:=by unfold Ci;split;exact a.even;exact a.odd
def Yb(c:CY e)(h:a.Data.length<=1048576):CY ⟨e.Ax,Sj e.Aq k a,e.Seq,e.Laid⟩:=by
 unfold Sj;split<;>exact⟨c.EW,c.log,by first|exact h|exact c.even,by first|exact h|exact c.odd,c.laid⟩
def U6{e:Az}(a:CY e)(p:Int):∃r,Jz e p=some r/\AKE e p=some r/\CY r.1:=by
 have ⟨n,B,E,J⟩:=RF e.Aq;have ⟨r,G,H,_⟩:=FR e.Aq n;unfold Jz AKE;rw[GL a,OO a,E,F3 a,Iw a,GZ,YM,show w64 (4-1)=3 from rfl];simp only[AB,AV];cases I:DB e with
 |false=>exact⟨(e,false),rfl,rfl,a⟩|true=>
 simp only[Bl,BW];by_cases j:(e.Laid.length:Int)>0
 .rw[decide_eq_true j];exact⟨(e,false),rfl,rfl,a⟩
 rw[decide_eq_false j,BW,BW];cases hi:inB p 0 3 with
 |false=>exact⟨(e,false),rfl,rfl,a⟩|true=>
 simp only[Bl,BW];unfold OU TM Mq TN;rw[BW,B,AB];by_cases q:n<0
 .rw[decide_eq_true q,BQ,BQ];exact⟨(e,false),rfl,rfl,a⟩
 have g:=SB a (w64 (1-n));have c:=λs=>cD (s:=s) g
 simp only[decide_eq_false q,BW,IL,Jb,AB,Nx,xZ,AV,Iy a.EW,Pv a.EW,M1 (Av (FI e.Ax e.Seq) (by omega)),c _ (Av (FI e.Ax e.Seq) (by omega)),OD,aH,G,H,Nv a.log,xW a.log,Ut,AMc,GL a,BG,BQ];have y:∀k,Sj e.Aq k (Ci e.Aq k)=e.Aq:=λk=>Qx e.Aq e.Aq.Log k
 cases p==0 with
 |true=>exact⟨_,rfl,rfl,Yb a (by simp)⟩|false=>
 rw[BW,BW];cases p==1 with
 |true=>
  rw[BQ,BQ];cases h:(E1 (Ci e.Aq (w64 (1-n))) (DF e.Ax e.Seq)).2 with
  |true=>exact⟨_,rfl,rfl,Yb a (bM g)⟩|false=>exact⟨(e,false),rfl,by rw[zq h,y],a⟩
 |false=>
 rw[BW,BW];cases p==2 with
 |true=>exact⟨_,rfl,rfl,Yb a (by rw[O1];exact g)⟩|false=>
 rw[BW,BW];cases h:(NZ e.Aq.Log (WO r.2.1 0 (EI e.Aq.Log.Data))).2 with
 |true=>exact⟨_,rfl,by rw[Qx],by dsimp only;rw[Qx];exact⟨a.EW,Av (tL _ _) a.log,a.even,a.odd,a.laid⟩⟩|false=>exact⟨(e,false),rfl,by rw[AOU h],a⟩
theorem AG6(p:Int):kf p 0 4=some (if p<0 then 0 else if p<4 then p else 4):=by
 unfold kf;congr 1
 grind
theorem pU(p:Int):∀(m n:Nat) (i:Int) (e:Az),CY e->0<=i->i<=4->4<=(m:Int)+i->m<n->∃r,A9 (Ip p) n (i,e)=some r/\A9 (Xi p) n (i,e)=some r/\CY r.1
 |m,0,i,e,a,g,j,h,c=>absurd c (by omega)|m,n+1,i,e,a,g,j,h,c=>by
  rw[DW,DW];have H:=λx B q y=>pU p (m-1) n (i+1) x B (by omega) q (by omega) y
  generalize A9 (Ip p) n=L at *;generalize A9 (Xi p) n=M at *;unfold Ip Xi Xh ACt;dsimp only;rw[Mv,AG6,AB,AB,AV,BX,BX];by_cases hi:i<(if p<4 then p else 4)
  .rw[AW hi,AW (show i<(if p<0 then 0 else if p<4 then p else 4) by grind)];have ⟨r,E,G,I⟩:=U6 a i;rw[E,G,AB,AB,BG,BG];cases r.2 with
   |false=>exact⟨_,rfl,rfl,a⟩|true=>
    grind[BQ,A7]
  .rw[AT hi,AT (show ¬i<(if p<0 then 0 else if p<4 then p else 4) by grind)];exact⟨_,rfl,rfl,a⟩
def ALy(a:CY e)(p:Int):∃r,Xg e p=some r/\AKF e p=some r/\CY r.1:=by
 unfold Xg AKF;rw[GL a,OO a,AB,AB];exact pU p 4 big 0 e a (by omega) (by omega) (by omega) (by have:=Kh;omega)
def aft:Int->List B5->List B5|_,[]=>[]|v,f::l=>if f.Seq<=v then aft v l else if f.Seq=v+1 then f::aft (v+1) l else []
def AWU(f:B5):Prop:=1<=f.Seq/\f.Seq<=1000000/\f.Body.length<=60
def AQB:∀(f:Nat) (s:List UInt8) (i:Int),∀x∈frs f s i,AWU x
 |0,s,i,x,c=>by simp[frs]at c|f+1,s,i,x,c=>by
  unfold frs at c;split at c
  .rename_i h;rcases Ae.1 c with e|e
   .rw[e];unfold Pl at h ⊢;split at h
    .rename_i hi;rw[AW hi];rcases RZ (s.drop i.toNat) i with ⟨q,b,a,y,g⟩|⟨j,g⟩
     .rw[g];exact⟨a.1.1,a.1.2,a.2.2⟩
     .rw[g]at h;simp at h
    .simp at h
   .exact AQB f s _ x e
  .simp at c
def Zg(s:List UInt8):∀x∈EI s,AWU x:=AQB _ _ _
theorem dT:∀(l:List B5) (v:Int),(aft v l).length<=l.length
 | [],v=>by simp[aft]|f::l,v=>by
  unfold aft;have:=dT l v;have:=dT l (v+1)
  grind
theorem tq:∀(l:List B5) (v:Int),∀x∈aft v l,x∈l
 | [],v,x,a=>by simp[aft]at a|f::l,v,x,a=>by
  unfold aft at a;have c:=tq l v x;have e:=tq l (v+1) x
  grind
theorem AHv{l:List B5}(E:l.length<=1048576)(y:∀f∈l,AWU f)(B:0<=p/\p<=1000000):AJt l p=some (aft p l):=by
 have hlim:=Acx;unfold AJt;refine(DK (n:=l.length) (λi (v:Int×List B5)=>(v.1,v.2,(i:Int))) (λi v=>v.2.length<=i/\0<=v.1/\v.1<=1000000) (λi v=>some (v.2++aft v.1 (l.drop i))) (by omega) ?_ (v:=(p,[])) (by simpa using B)).trans (by simp);rintro L i ⟨v,acc⟩ ⟨q,a,c⟩ hi j;unfold ACe kD kE;dsimp only at q a c ⊢;simp only[dec_lt,AV];rcases Aa i l.length with h|h
 .have ⟨G,H,I⟩:=y _ (Ak h);rw[decide_eq_true h,BQ,BM h,AB,AB,AB,AB,Dt h,Bv h,BX,A7];unfold aft;by_cases e:l[i].Seq<=v
  .rw[AW e,AW e];exact j (v,acc) ⟨by dsimp only;omega,a,c⟩ h
  .rw[AT e,AT e];by_cases g:l[i].Seq=v+1
   .rw[AW g,show (l[i].Seq-1 != v)=false by rw[bne_eq_false_iff_eq];omega,BW,CD (by simp only[AI,AM];omega)];have:=j (l[i].Seq,acc++[l[i]]) ⟨by simp;omega,by dsimp only;omega,by dsimp only;omega⟩ h;rw[this,g];simp
   grind[BQ]
 .rw[decide_eq_false (by omega),BW,As h];simp[aft]
theorem AGy{l:List B5}(E:l.length<=1048576)(y:∀f∈l,AWU f)(B:0<=p/\p<=1000000):AJD l p=some (aft p l):=by
 have hlim:=Acx;unfold AJD;refine(DK (n:=l.length) (λi (v:Int×List B5)=>(v.2,v.1,(i:Int))) (λi v=>v.2.length<=i/\0<=v.1/\v.1<=1000000) (λi v=>some (v.2++aft v.1 (l.drop i))) (by omega) ?_ (v:=(p,[])) (by simpa using B)).trans (by simp);rintro L i ⟨v,acc⟩ ⟨q,a,c⟩ hi g;unfold AB0 iu iv;dsimp only at q a c ⊢;simp only[dec_lt,AV];rcases Aa i l.length with h|h
 .have ⟨G,H,I⟩:=y _ (Ak h);rw[decide_eq_true h,BQ,BM h,AB,Dt h,Bv h,BX,A7];unfold aft;by_cases e:l[i].Seq<=v
  .rw[AW e,AW e];exact g (v,acc) ⟨by dsimp only;omega,a,c⟩ h
  .rw[AT e,AT e];by_cases j:l[i].Seq=v+1
   .rw[AW j,show (l[i].Seq != v+1)=false by rw[bne_eq_false_iff_eq];omega,BW,CD (by simp only[AI,AM];omega)];have:=g (v+1,acc++[l[i]]) ⟨by simp;omega,by dsimp only;omega,by dsimp only;omega⟩ h;rw[this];simp
   grind[BQ]
 .rw[decide_eq_false (by omega),BW,As h];simp[aft]
def notes:List B5->List Bq| []=>[]|f::l=>if (Ot f.Body).2=true then (Ot f.Body).1::notes l else []
def af:∀l,(notes l).length<=l.length
 | []=>by simp[notes]|f::l=>by
  unfold notes;have:=af l;split<;>simp<;>omega
theorem sX{l:List B5}(a:l.length<=1048576){G:List UInt8->AA (Bq×Bool)}(hG:∀f∈l,G f.Body=some (Ot f.Body)){F:(List Bq×Int->AA (List Bq))->List Bq×Int->AA (List Bq)}
 (hF:∀L acc i,F L (acc,i)=br (decide (i<(l.length:Int))) (bd (at? l i) λx=>bd (G x.Body) λy=>br (!y.2) (some acc) (gd (acc.length+[y.1].length<=lim) (L (acc++[y.1],w64 (i+1))))) (some acc)) :
 A9 F big ([],0)=some (notes l):=by
 refine(DK (n:=l.length) (λi (v:List Bq)=>(v,(i:Int))) (λi v=>v.length<=i) (λi v=>some (v++notes (l.drop i))) (by omega) ?_ (v:=[]) (by simp)).trans (by simp)
 grind[BM,AB,Dt,Bv,Bu,notes,CD,lim]
def y8{l:List B5}(e:l.length<=1048576)(a:∀f∈l,f.Body.length<=1048576):AJA l=some (notes l):=by
 unfold AJA;exact sX e (G:=qG) (λf c=>Yv (a f c)) λL acc i=>by unfold ABq iY;simp only[AV]
def xX{l:List B5}(e:l.length<=1048576)(a:∀f∈l,f.Body.length<=1048576):AJB l=some (notes l):=by
 unfold AJB;exact sX e (G:=ABk) (λf c=>xc (a f c)) λL acc i=>by unfold ABr iZ;simp only[AV]
theorem tp{s:Bj}{k:Int}{r:AE×Int×Bool}(h:Hm s k=some r):0<=r.2.1/\r.2.1<=1000000:=by
 unfold Hm at h;rw[IL,AB,IK,AB,BG]at h;cases a:Ev (Ci s k) with
 |false=>rw[a,BW]at h;cases h;decide
 |true=>
  have j:=Dm.1 a;rw[a,BQ,CD j.2]at h;have ⟨q,g,y,c⟩:=MZ (s:=List.take (Ci s k).Safe.toNat (Ci s k).Data) (by rw[Aj];omega);rw[g,AB]at h;cases h;cases e:q.2.2 with
  |false=>rw[c.no e];decide|true=>
   have B:=(c.yes e).2.2
   grind[DF,B9,ACC,XN,BX,AV]
def Qz(s:Bj)(n:Int)(q:AE×Int×Bool):AE×Int×Bool:=
 if GR s=true/\¬n<0 then ((Dr (notes (aft q.2.1 (EI s.Log.Data))) q.1).1,q.2.1+(notes (aft q.2.1 (EI s.Log.Data))).length,true) else (I4,0,false)
structure SR(s:Bj)(n:Int)(q:AE×Int×Bool):Prop where
 sn:Jy s=some n
 im:VA s=some n
 sr:Hm s n=some q
 ir:LB s n=some q
 fit:Bt q.1
 lo:0<=q.2.1
 hi:q.2.1<=1000000
def AHi(s:Bj):∃n q,SR s n q:=by
 have ⟨n,c,e,_⟩:=RF s;have ⟨q,q1,g,h⟩:=FR s n;have ⟨a,b⟩:=tp q1;exact⟨n,q,c,e,q1,g,h,a,b⟩
def recovered{s:Bj}(j:s.Log.Data.length<=1048576){n:Int}{q:AE×Int×Bool}(h:SR s n q):AJu s=some (Qz s n q)/\ACj s=some (Qz s n q)/\Bt (Qz s n q).1:=by
 have E:=MD s.Log.Data;have a:=Zg s.Log.Data;have y:=dT (EI s.Log.Data) q.2.1;have I:=af (aft q.2.1 (EI s.Log.Data));have e:∀f∈aft q.2.1 (EI s.Log.Data),f.Body.length<=1048576:=λf B=>by have:=(a f (tq _ _ f B)).2.2;omega
 have H:=h.lo;have G:=h.hi;unfold AJu ACj kF kL Qz;simp only[h.sn,h.im,h.sr,h.ir,AB,SI,YI,AV,T6 j,Tf j];rw[AHv (by omega) a ⟨h.lo,h.hi⟩,AGy (by omega) a ⟨h.lo,h.hi⟩,AB,AB,y8 (by omega) e,xX (by omega) e,AB,AB,SD h.fit (by omega),Rl h.fit (by omega),AB,A7];cases e:GR s with
 |false=>exact⟨rfl,rfl,MY⟩|true=>
  by_cases c:n<0
  .rw[decide_eq_true c,AT (λg=>g.2 c)];exact⟨rfl,rfl,MY⟩
  .rw[decide_eq_false c,AW ⟨rfl,c⟩];exact⟨rfl,rfl,(ID _ h.fit).1⟩
def used:Int->Int->List B5->Int|_,e,[]=>e|v,e,f::l=>if f.Seq<=v then used v f.Next l else if f.Seq=v+1/\(Ot f.Body).2=true then used (v+1) f.Next l else e
def oS(t:Int):Int->Int->List B5->Int|_,e,[]=>e|v,e,f::l=>if f.Seq<=v then oS t v f.Next l else if f.Seq=v+1/\f.Seq<=t then oS t (v+1) f.Next l else e
theorem oT:∀(l:List B5) (v e:Int),oS (v+(notes (aft v l)).length) v e l=used v e l
 | [],v,e=>rfl|f::l,v,e=>by
  unfold oS used;unfold aft;by_cases a:f.Seq<=v
  .rw[AW a,AW a,AW a,oT l]
  .rw[AT a,AT a,AT a];by_cases c:f.Seq=v+1
   .rw[AW c];unfold notes;by_cases h:(Ot f.Body).2=true
    .rw[AW h,AI,AW (show _/\_ from ⟨c,by omega⟩),AW (show _/\(Ot f.Body).2=true from ⟨c,h⟩),<-oT l (v+1)];congr 1;omega
    .grind
   .rw[AT c,AT (λg=>c g.1),AT (λg=>c g.1)]
def Q7(s:Bj)(n:Int)(q:AE×Int×Bool):Int:=if GR s=true/\¬n<0 then used q.2.1 0 (EI s.Log.Data) else 0
def AOd{s:Bj}(Q:s.Log.Data.length<=1048576){n:Int}{q:AE×Int×Bool}(h:SR s n q):ACg s=some (Q7 s n q):=by
 have O:=MD s.Log.Data;have B:=Zg s.Log.Data;have G:=h.lo;have E:=h.hi;unfold ACg kG Q7;simp only[h.sn,h.sr,AB,SI,AV,T6 Q];have key:A9 (kI (EI s.Log.Data)) big (q.2.1,0,0)=some (used q.2.1 0 (EI s.Log.Data)):=by
  generalize EI s.Log.Data=l at *;refine(DK (n:=l.length) (λi (v:Int×Int)=>(v.1,v.2,(i:Int))) (λi v=>0<=v.1/\v.1<=1000000) (λi v=>some (used v.1 v.2 (l.drop i))) (by omega) ?_ (v:=(q.2.1,0)) ⟨G,E⟩).trans (by simp);rintro L i ⟨v,e⟩ ⟨a,c⟩ hi J;unfold kI kH ACh;dsimp only at a c ⊢;simp only[dec_lt,AV];rcases Aa i l.length with h|h
  .have ⟨X,Y,Z⟩:=B _ (Ak h);rw[decide_eq_true h,BQ];simp only[BM h,AB];rw[Dt h,Bv h,BX,A7,Yv (by omega)];unfold used;by_cases H:l[i].Seq<=v
   .rw[AW H,ifN,show (l[i].Seq==v+1)=false by rw[beq_eq_false_iff_ne];omega,BW];exact J (v,l[i].Next) ⟨a,c⟩ h
   .rw[AT H];by_cases I:l[i].Seq=v+1
    .rw[ifN,show (l[i].Seq==v+1)=true by rw[beq_iff_eq];omega,BQ,AB,BG,Bu];by_cases j:(Ot l[i].Body).2=true
     .rw[AW j,AW ⟨I,j⟩];exact J (v+1,l[i].Next) ⟨by dsimp only;omega,by dsimp only;omega⟩ h
     .rw[AT j,AT (λg=>j g.2)]
    .rw[ifP,AT (λg=>I g.1)]
  .rw[decide_eq_false (by omega),BW,As h];simp[used]
 rw[key];cases S:GR s with
 |false=>rfl|true=>
  by_cases y:n<0
  .rw[decide_eq_true y,AT (λg=>g.2 y)];rfl
  .rw[decide_eq_false y,AW ⟨rfl,y⟩];rfl
def AMf(O:s.Log.Data.length<=1048576){q:AE×Int×Bool}(h:SR s n q):ACk s=some (Q7 s n q):=by
 have Y:=MD s.Log.Data;have y:=Zg s.Log.Data;have E:=h.lo;have B:=h.hi;unfold ACk Q7;simp only[(recovered O h).2.1,h.im,h.ir,AB,Co,Ij,Tf O];by_cases j:GR s=true/\¬n<0
 .have G:(Qz s n q).2=(q.2.1+(notes (aft q.2.1 (EI s.Log.Data))).length,true):=by unfold Qz;rw[AW j]
  rw[G,AW j];dsimp only;rw[BG,BQ,<-oT];have Z:=af (aft q.2.1 (EI s.Log.Data));have X:=dT (EI s.Log.Data) q.2.1;have S:(Qz s n q).2.1=q.2.1+(notes (aft q.2.1 (EI s.Log.Data))).length:=by rw[G]
  generalize q.2.1+((notes (aft q.2.1 (EI s.Log.Data))).length:Int)=t at *;generalize Qz s n q=r at *;generalize EI s.Log.Data=l at *;refine(DK (n:=l.length) (λi (v:Int×Int)=>(v.1,v.2,(i:Int))) (λi v=>0<=v.1/\v.1<=1000000) (λi v=>some (oS t v.1 v.2 (l.drop i))) (by omega) ?_ (v:=(q.2.1,0)) ⟨E,B⟩).trans (by simp);rintro L i ⟨v,e⟩ ⟨a,c⟩ hi Q;unfold ACl kM kN kO;dsimp only at a c ⊢;simp only[dec_lt,AV];rcases Aa i l.length with h|h
  .have ⟨o1,o2,o3⟩:=y _ (Ak h);rw[decide_eq_true h,BQ];simp only[BM h,AB];rw[Dt h,Bv h,BX,A7,S];unfold oS;by_cases H:l[i].Seq<=v
   .rw[AW H,ifN];exact Q (v,l[i].Next) ⟨a,c⟩ h
   .rw[AT H,ifP];by_cases I:l[i].Seq=v+1
    .rw[show (l[i].Seq != v+1)=false by rw[bne_eq_false_iff_eq];omega,BW,BX];by_cases J:l[i].Seq<=t
     .rw[ifN,AW ⟨I,J⟩];exact Q (v+1,l[i].Next) ⟨by dsimp only;omega,by dsimp only;omega⟩ h
     .rw[ifP,AT (λg=>J g.2)]
    .rw[show (l[i].Seq != v+1)=true by rw[bne_iff_ne];omega,BQ,BQ,AT (λg=>I g.1)]
  .rw[decide_eq_false (by omega),BW,As h];simp[oS]
 .rw[show Qz s n q=(I4,0,false) by unfold Qz;rw[AT j],AT j];rfl
def Y6(a:Bp)(p:Int):Bp×Bool:=if Ev a=true/\inB p 0 a.Data.length=true then (⟨a.Data.take p.toNat,if a.Safe<p then a.Safe else p⟩,true) else (a,false)
theorem AOc(a:Bp)(p:Int):rX a p=some (Y6 a p):=by
 grind[rX,kJ,Y6,IK,AB,GZ,AV,Ev,inB,BQ,BW,CD,Mv]
theorem AMe(a:Bp)(p:Int):rb a p=some (Y6 a p):=by
 grind[rb,ku,Y6,FB,AB,Fv,AV,Ev,inB,BQ,BW,CD]
theorem tZ(a:Bp)(p:Int):(Y6 a p).1.Data.length<=a.Data.length:=by grind[Y6]
def So(s:Bj):Bool:=(s.Log.Safe==(s.Log.Data.length:Int))&&((s.Ec.Safe==(s.Ec.Data.length:Int))&&(s.Odd.Safe==(s.Odd.Data.length:Int)))
def AOV(s:Bj):AJv s=some (So s):=by
 unfold AJv Xb ACf So;simp only[AB,AV,Ck]
def AMW(s:Bj):AJw s=some (So s):=by
 unfold AJw Xc So;simp only[AV,Ck]
def AaC:Bj:=⟨⟨[],0⟩,⟨[],0⟩,⟨[],0⟩⟩
def ALu:Az:=⟨I4,AaC,0,[]⟩
def Pf:CY ALu:=⟨MY,by decide,by decide,by decide,by decide⟩
def HT(s:Bj)(n:Int)(q:AE×Int×Bool):Az×Bool:=
 if (Qz s n q).2.2=true/\So s=true then (⟨(Qz s n q).1,⟨M4 (Y6 s.Log (Q7 s n q)).1,s.Ec,s.Odd⟩,(Qz s n q).2.1,[]⟩,true) else (ALu,false)
def AaG{s:Bj}(a:s.Log.Data.length<=1048576)(j:s.Ec.Data.length<=1048576)(y:s.Odd.Data.length<=1048576){n:Int}{q:AE×Int×Bool}(h:SR s n q):ACi s=some (HT s n q)/\AC0 s=some (HT s n q)/\CY (HT s n q).1:=by
 have ⟨c,e,g⟩:=recovered a h;have B:=tZ s.Log (Q7 s n q);unfold ACi AC0 kK kv HT;simp only[c,e,AB,AOV,AMW,AV,AOd a h,AMf a h,AOc,AMe,M5,OD,aH];cases (Qz s n q).2.2 with
 |false=>exact⟨rfl,rfl,Pf⟩|true=>
  cases So s with
  |false=>exact⟨rfl,rfl,Pf⟩|true=>exact⟨rfl,rfl,by rw[AW ⟨rfl,rfl⟩];exact⟨g,by dsimp only;rw[O1];omega,j,y,by simp⟩⟩
def mT(a:Bp)(p:Int):Int:=if p<0 then a.Safe else if p<a.Data.length-a.Safe then a.Safe+p else a.Data.length
def KS(a:Bp)(p:Int):Bp:=if Ev a=true then ⟨a.Data.take (mT a p).toNat,mT a p⟩ else a
theorem AXZ(b:Int):O6 0 b=some (if 0<b then b else 0):=by
 unfold O6;rw[BX];grind
theorem AZX(p:Int)(a:0<=m):kf p 0 m=some (if p<0 then 0 else if p<m then p else m):=by
 unfold kf;congr 1
 grind
theorem AOX(a:Bp)(p:Int):re a p=some (KS a p):=by
 grind[re,KS,IK,AB,BG,Dm,BQ,Mv,AXZ,A7,mT,CD]
theorem AMY(a:Bp)(p:Int):rf a p=some (KS a p):=by
 grind[rf,KS,FB,AB,BG,Dm,BQ,A7,AZX,mT,CD]
theorem aS(a:Bp)(p:Int):(KS a p).Data.length<=a.Data.length:=by grind[KS]
def D2(s:Bj)(l:List Int):Bj:=⟨KS s.Log (l.getD 0 0),KS s.Ec (l.getD 1 0),KS s.Odd (l.getD 2 0)⟩
theorem xn(l:List Int)(i:Nat):Xs l i=some (l.getD i 0):=by
 grind[Xs,BQ,BM,AB,BW]
def ch(s:Bj)(l:List Int):AC2 s l=some (D2 s l):=by
 unfold AC2 D2;rw[show Xs l 0=some (l.getD 0 0) from xn l 0,show Xs l 1=some (l.getD 1 0) from xn l 1,show Xs l 2=some (l.getD 2 0) from xn l 2];simp only[AB,AOX]
def Aai(l:List Int):List.take (List.replicate (Int.toNat 3) 0).length l++List.drop l.length (List.replicate (Int.toNat 3) 0)=[l.getD 0 0,l.getD 1 0,l.getD 2 0]:=by
 match l with
 | []=>rfl| [a]=>rfl| [a,b]=>rfl|a::b::c::m=>simp[List.getD]
def cG(s:Bj)(l:List Int):AC3 s l=some (D2 s l):=by
 unfold AC3 D2;rw[Aai,show at? [l.getD 0 0,l.getD 1 0,l.getD 2 0] 0=some (l.getD 0 0) from rfl,show at? [l.getD 0 0,l.getD 1 0,l.getD 2 0] 1=some (l.getD 1 0) from rfl,show at? [l.getD 0 0,l.getD 1 0,l.getD 2 0] 2=some (l.getD 2 0) from rfl];simp only[AB,AMY]
def Zf(a:CY e)(l:List Int):(D2 e.Aq l).Log.Data.length<=1048576/\(D2 e.Aq l).Ec.Data.length<=1048576/\(D2 e.Aq l).Odd.Data.length<=1048576:=
 ⟨Av (aS _ _) a.log,Av (aS _ _) a.even,Av (aS _ _) a.odd⟩
theorem AOy(a:Int):0<=eW a 255/\eW a 255<=255:=by
 unfold eW;have e:(BitVec.ofInt IntKind.i64.bits 255).toNat=255:=rfl
 grind[BitVec.toNat_and,BitVec.ofInt,Nat.and_le_right,U0]
def ATl(s:List UInt8):APV s=some (decide ((s.length:Int)>1048576)):=rfl
def EN(c:BT):Prop:=0<=c.i_/\c.i_<=c.b_.length/\c.b_.length<=1048576
def Acw{s:List UInt8}(a:s.length<=1048576):∃c,AJC s=some c/\EN c:=by
 unfold AJC;refine Xz (n:=s.length) (λi (v:Int)=>(v,(i:Int))) (λ_ _=>True) EN (by omega) ?_ trivial;intro L i v _ hi e;unfold ABt ib ABs;dsimp only;simp only[AV,dec_lt];rcases Aa i s.length with h|h
 .rw[decide_eq_true h,BQ,BX,BM h,AB,Bv h];split
  .exact e _ trivial h
  .exact⟨_,rfl,by simp,by simp,a⟩
 .rw[decide_eq_false (by omega),BW,BW];exact⟨_,rfl,by simp,by simp,a⟩
def AEy(j:EN c):∃r,ba c=some r/\0<=r.1/\r.1<=255/\EN r.2:=by
 have ⟨a,g,e⟩:=j;unfold ba ic;rw[BX];have ⟨i,hi⟩:=Ai a;split
 .rename_i h;rw[hi,BM (by omega),AB,AV];have:=AOy (w64 (eW (U5 (EF (w64 (w64 (c.h_*6364136223846793005)+1442695040888963407)) 33) (EF (w64 (w64 (c.h_*6364136223846793005)+1442695040888963407)) 45)) 255+w64 (↑(UInt8.toNat c.b_[i]):Int)));refine⟨_,rfl,this.1,this.2,?_⟩;rw[A7 (n:=(i:Int)+1)];exact⟨by dsimp only;omega,by dsimp only;omega,e⟩
 .rw[AV];have:=AOy (U5 (EF (w64 (w64 (c.h_*6364136223846793005)+1442695040888963407)) 33) (EF (w64 (w64 (c.h_*6364136223846793005)+1442695040888963407)) 45));exact⟨_,rfl,this.1,this.2,a,g,e⟩
def oQ{a:Int}(c:0<=a)(e:0<n):0<=Int.tmod a n/\Int.tmod a n<n:=by
 rw[Int.tmod_eq_emod_of_nonneg c];exact⟨Int.emod_nonneg _ (by omega),Int.emod_lt_of_pos _ e⟩
theorem Ey(q:EN c)(n:Int):∃r,EH c n=some r/\0<=r.1/\(n<=0->r.1=0)/\(0<n->r.1<n)/\EN r.2:=by
 unfold EH;rw[BX];by_cases y:n<=0
 .rw[AW y];exact⟨_,rfl,by simp,by simp,by omega,q⟩
 rw[AT y,BX];split
 .have ⟨r,e,S,h2,h3⟩:=AEy q;rw[e,AB,CD (by omega)];have:=oQ S (show 0<n by omega)
  grind
 .have ⟨g,J,X,Z,E⟩:=AEy q;have ⟨h,L,Y,b2,G⟩:=AEy E;have ⟨j,O,a3,b3,H⟩:=AEy G;have ⟨B,Q,a4,b4,I⟩:=AEy H;rw[J,AB,L,AB,O,AB,Q,AB,CD (by omega)];rw[A7 (n:=g.1*16777216),A7 (n:=h.1*65536),A7 (n:=j.1*256)];rw[A7 (n:=g.1*16777216+h.1*65536),A7 (n:=g.1*16777216+h.1*65536+j.1*256),A7 (n:=g.1*16777216+h.1*65536+j.1*256+B.1)];have:=oQ (a:=g.1*16777216+h.1*65536+j.1*256+B.1) (by omega) (show 0<n by omega);exact⟨_,rfl,this.1,by omega,λ_=>this.2,I⟩
def oK(a:EN c)(n:Int):∃r,TD c n=some r/\EN r.2:=by
 have ⟨r,e,_,_,_,h⟩:=Ey a n;unfold TD;rw[e,AB];exact⟨_,rfl,h⟩
theorem oM(a:EN c){l:List Int}(g:l≠[]):∃r,rI c l=some r/\EN r.2/\r.1∈l:=by
 unfold rI;have B:0<l.length:=by cases l with|nil=>exact absurd rfl g|cons=>simp
 have ⟨r,e,h,j,q,y⟩:=Ey a (l.length:Int)
 grind[Int.eq_ofNat_of_zero_le,AB,BM,List.getElem_mem]
theorem AV9(e:EN c):∃r,ABu c=some r/\r.1.AX.length<=3/\Dp r.1=true/\EN r.2:=by
 unfold ABu;have ⟨r1,j,X,Y,a,g⟩:=Ey e 5;have ⟨r2,e2,a2,b2,B,Z⟩:=Ey g 9;have ⟨r3,e3,a3,b3,E,c3⟩:=Ey Z 6;have ⟨r4,e4,a4,b4,G,c4⟩:=Ey c3 5;have ⟨r5,e5,a5,b5,H,c5⟩:=Ey c4 4;have ⟨r6,e6,a6,b6,I,c6⟩:=Ey c5 4;have ⟨r7,e7,a7,b7,J,c7⟩:=Ey c6 4;have ⟨r8,e8,a8,b8,O,c8⟩:=Ey c7 3;have ⟨q,e9,a9,b9,d9,c9⟩:=Ey c8 3;simp only[j,e2,e3,e4,e5,e6,e7,e8,e9,AB];have a:=a (by omega);have B:=B (by omega);have E:=E (by omega);have G:=G (by omega);have H:=H (by omega);have I:=I (by omega);have J:=J (by omega);have O:=O (by omega);have h9:=d9 (by omega);have ⟨n,hn⟩:=Ai (show 0<=1+q.1 by omega);refine Xz (n:=n) (λi (v:BT×AY)=>((i:Int),v.1,v.2)) (λi v=>EN v.1/\∃ss:List Int,v.2=⟨ss,w64 (1+r1.1),w64 (2+r2.1),w64 (1+r3.1),w64 (1+r4.1),w64 (1+r5.1),r6.1,w64 (1+r7.1),w64 (1+r8.1)⟩/\ss.length=i/\∀x∈ss,2<=x/\x<=13) _ (by omega) ?_ (v:=(q.2,_)) ⟨c9,[],rfl,rfl,by simp⟩;rintro L i ⟨c,r⟩ ⟨e,ss,Q,hs,hx⟩ hi S;unfold ABw ABv;dsimp only at e Q S ⊢;subst Q;rw[A7 (n:=1+q.1),hn,dec_lt];rcases Aa i n with h|h
 .have ⟨y,j,X,Y,a,g⟩:=Ey e 12;have a:=a (by omega);rw[decide_eq_true h,BQ,j,AB,CD (by simp only[AI,AM];unfold lim;omega),Bv h];refine S (_,_) ⟨g,_,rfl,by simp[hs],?_⟩ h
  grind[List.mem_singleton,A7]
 .rw[decide_eq_false (by omega),BW,AV]
  grind[Dp,B9,List.all_eq_true,A7]
def Nk(h:AE):Prop:=-9223372036854775808<=h.Now/\h.Now<9223372036854775808
def AaD(r:AY)(n:Nat)(h:AE):Prop:=h.AJ.length<=h.AQ.AX.length/\h.AJ.length<=r.AX.length/\h.AQ.AX.length<=1048576/\h.AG.length<=n/\h.BF.length<=n/\h.BD.length<=3/\(∀c∈h.AJ,FT c)/\1<=h.AJ.length/\Nk h
def AUM(g:okN n)(e:okN m){x y:List UInt8}(h:pN n++x=pN m++y):n=m/\x=y:=by
 have c:=AHf g x;rw[h,AHf e y]at c;simp only[AD,Prod.mk.injEq]at c;have a:n=m:=by have:=g.1;have:=e.1;omega
 subst a;exact⟨rfl,List.append_cancel_left h⟩
def AEE:∀{l' l:List Int} {t:List UInt8},(∀n∈l',okN n)->(∀n∈l,okN n)->pL l'++t=pL l->∃r,l=l'++r/\t=pL r
 | [],l,t,_,_,h=>⟨l,rfl,h⟩|n::l',[],t,a,_,h=>by
  have:=nF (a n (BK ..));have e:pL (n::l')=pN n++pL l':=rfl;rw[e]at h;have:=congrArg List.length h;simp only[AH]at this;have g:(pL []).length=0:=rfl;omega
 |n::l',m::l,t,a,j,h=>by
  have e:pL (n::l')=pN n++pL l':=rfl;have g:pL (m::l)=pN m++pL l:=rfl;rw[e,g,BR]at h;have ⟨q1,q⟩:=AUM (a n (BK ..)) (j m (BK ..)) h;have ⟨r,y,B⟩:=AEE (λk c=>a k (Af _ c)) (λk c=>j k (Af _ c)) q;exact⟨r,by rw[q1,y];rfl,B⟩
def AT2(q:DC h=true):∀n∈Fi h,okN n:=by
 have e:=Ns q;have I:=Jm q;have hR:=CO e.rules;have y:=MR h.AQ;rw[Tr];intro n a;unfold okN;simp only[Ae,Bs,List.mem_flatMap,List.mem_map]at a;rcases a with rfl|a|rfl|rfl|rfl|⟨p,L,a⟩|⟨c,E,rfl⟩|rfl|a|⟨j,H,rfl⟩
 .omega
 .unfold Je at a;simp only[Ae,Bs,H8,or_false]at a;rcases a with (rfl|rfl|rfl|rfl|rfl|rfl|rfl|rfl)|a
  all_goals first|omega|skip
  have:=hR.2.2.2.2.2.1 n a;omega
 .omega
 .omega
 .omega
 .obtain⟨i,hi,rfl⟩:=C4.1 L;have O:=FF (e.par i hi);unfold Lt at a;simp only[Ae,H8,or_false]at a;have G:=A7 (n:=h.AG[i].B0+1) (by omega) (by omega);rw[G]at a;omega
 .obtain⟨i,hi,rfl⟩:=C4.1 E;have B:i<h.AQ.AX.length:=by rw[<-e.Dz];exact hi
  have hD:h.AQ.AX.getD i 0=h.AQ.AX[i]:=by simp[List.getD,B]
  have g:=(e.cab i hi).2;have Q:=hR.2.2.2.2.2.1 _ (Ak B);rw[hD]at g;omega
 .have:=e.todo;have:=e.Ds;omega
 .obtain⟨i,hi,rfl⟩:=C4.1 a;have g:=J1.1 I.2.2.2.2.2.2.1 i hi;unfold SK at g;have J:=e.Dz;have:=e.Ds;rw[Ca hi,AF,B9,A7]at g;omega
 .have:=e.job j H;unfold up;rw[A7];omega
def Vn(l:List AU):(l.flatMap Lt).length=10*l.length:=by
 induction l with
 |nil=>rfl|cons p l a=>rw[List.flatMap_cons,AH,a,AI];show 10+_=_;omega
def AM1{r':AY}(h:Je r=Je r'):r=r':=by
 have ⟨s,a,b,c,d,e,f,g,i⟩:=r;have ⟨I,j,q,y,B,E,G,g',H⟩:=r';unfold Je at h;simp only[Bm,Be,CE]at h;obtain⟨rfl,rfl,rfl,rfl,rfl,rfl,rfl,rfl,rfl⟩:=h;rfl
def xz(j:DC g=true)(q:DC h=true){t:List Int}(a:Fi g++t=Fi h):t=[]:=by
 have rg:=Ns j;have rh:=Ns q;rw[Tr,Tr]at a;simp only[Bm,BR,CE]at a;have ⟨E,a⟩:=a;have ⟨e,a⟩:=D8 a (by omega);have hR:=AM1 e;simp only[CE]at a;have ⟨_,_,G,a⟩:=a;have ⟨_,a⟩:=D8 a (by rw[Vn,Vn];omega);have ⟨_,a⟩:=D8 a (by rw[Ac,Ac,rg.Dz,rh.Dz,hR]);simp only[CE]at a;have ⟨H,a⟩:=a;have ⟨_,a⟩:=D8 a (by omega);have y:=congrArg List.length a;rw[AH,Ac,Ac]at y;have c:=rg.Oi;have B:=rh.Oi;rw[hR]at c;exact Fk.1 (by omega)
def AT1(c:DC h=true):16<=(Fi h).length:=by
 have a:=Ns c;have e:=MR h.AQ;have g:=a.Ds;have j:=a.Dz;have q:=a.Oi;have y:=a.AcK;rw[Tr];simp only[AI,AH,Ac,Vn];omega
def AVx(a:DC h=true)(c:inB q 0 1000000=true):DF h q=four ((Ku (pL (q::Fi h)):Nat):Int)++pL (q::Fi h):=by
 unfold DF;rw[AW ⟨a,c⟩]
def AVy{s:List UInt8}(a:DF h q=s)(e:s≠[]):DC h=true/\inB q 0 1000000=true:=by
 unfold DF at a;split at a
 .rename_i c;exact c
 .exact(e a.symm).elim
def Yt(c:DC h=true)(e:inB q 0 1000000=true):∀n∈q::Fi h,okN n:=by
 intro n a;rw[B9]at e;rcases Ae.1 a with rfl|a
 .unfold okN;omega
 .exact AT2 c n a
def bB(a:DC h=true)(c:inB q 0 1000000=true):(DF h q).drop 4=pL (q::Fi h)/\20<=(DF h q).length:=by
 rw[AVx a c];have e:=AUJ (Yt a c);have g:=AT1 a;refine⟨List.drop_left' (HV _),?_⟩;rw[AH,HV];simp only[AI]at e;omega
def tM(a:DC h=true)(j:Bt h)(g:inB q 0 1000000=true):bh (DF h q)=some (h,q,true):=by
 have G:=FI h q;have ⟨c,E⟩:=bB a g;have ⟨r,_,e,B⟩:=MZ (s:=DF h q) (by omega);rw[e,B.all h q a j ?_ rfl (by omega)];have y:(pL (q::Fi h)).length<=(DF h q).length:=by rw[<-c,BI];omega
 rw[c];exact yh _ _ (Yt a g) (by omega)
def AVz{h:AE}(g:DC h=true){q:Int}(B:inB q 0 1000000=true){m:Nat}(X:m<(DF h q).length):∃r,bh ((DF h q).take m)=some r/\r.2.2=false:=by
 have S:=FI h q;have ⟨r,_,e,I⟩:=MZ (s:=(DF h q).take m) (by rw[Aj];omega);refine⟨r,e,?_⟩;cases y:r.2.2 with
 |false=>rfl|true=>
  exfalso;have ⟨O,Q,c⟩:=I.yes y;by_cases a:(DF h q).take m=[]
  .rw[a]at e;have:bh []=some (I4,0,false):=rfl;rw[this]at e;cases e;cases y
  .have ⟨j,E⟩:=AVy c a;have ⟨s1,Y⟩:=bB j E;have ⟨J,Z⟩:=bB g B;have H:pL (r.2.1::Fi r.1)++(DF h q).drop m=pL (q::Fi h):=by
    rw[<-s1,<-J,c];have G:4<=m:=by
     have:=congrArg List.length c;rw[Aj]at this;omega
    conv=>rhs;rw[<-Cb m (DF h q)]
    rw[Ei (by rw[Aj];omega)]
   have ⟨t,t1,t2⟩:=AEE (Yt j E) (Yt g B) H;simp only[Bm,CE]at t1;have:=xz j g t1.2.symm;rw[this]at t2;have:=congrArg List.length t2;rw[BI]at this;have L:(pL []).length=0:=rfl;omega
def AHn(l:List A2):EJ eqE l l=true:=(HR dx).2 rfl
theorem AHo(l:List Bf):EJ eqP l l=true:=(HR dy).2 rfl
def AIH(x:Int):(x==x)=true:=beq_self_eq_true x
theorem AHr(a:r.AX.length<=1048576):rK r r=some true:=by
 grind[rK,JX,IM,Ox,AB,BQ,AV]
theorem AHs{w:A3}(c:Dc w)(a:HO w=true):rL w w=some true:=by
 unfold rL TH
 grind[Ih,He,M3,P4,E8,AHo,AB,BQ,AV]
theorem AHp{c:Ah}(a:FT c)(e:L0 c=true):rM c c=some true:=by
 have g:HO c.B6=true:=by
  grind[L0]
 have h:=a.1;unfold rM OT;simp only[Nu a,e,AIH,CN,SH (show c.Row.length<2 ^ 62 by omega),AHn,AHs a.2 g,AB,BQ,AV]
theorem AHq(a:Bt h)(e:DC h=true):rN h h=some true:=by
 have j:=a.Ds;have B:=a.CR;have E:=a.Dz;have G:=a.todo;have H:=a.F9;unfold rN Io;simp only[Gp a,e,AHr j,IM (show h.BF.length<2 ^ 62 by omega),IM (show h.BD.length<2 ^ 62 by omega),Ox.2,ne_self,AB,Bl,BW,AV];have q:TI h h ()=some true:=by
  unfold TI;have key:=AaU (n:=h.AJ.length) (F:=QU h h) (by omega) ?_ ?_
  .rw[ne_self,BW]at key;exact key
  .intro L i hi;have c:L0 h.AJ[i]=true:=by
    have I:=J1.1 (Jm e).2.2.2.2.2.2.2.2.2 i hi
    grind[Wb,Ca,KX]
   unfold QU;rw[CF hi,BQ,BM hi,AB,AB,AHp (a.ES _ (Ak hi)) c,AB,BG,BQ]
  .intro L;unfold QU jJ;rw[C2,BW,AV]
 rw[<-q];refine(DK (n:=h.AG.length) (λi (_:Unit)=>(i:Int)) (λ_ _=>True) (λ_ _=>TI h h ()) (by omega) ?_ (v:=()) trivial);intro L i _ _ hi y;unfold XP;rcases Aa i h.AG.length with g|g
 .rw[CF g,BQ,BM g,AB,AB,Bv g];simp only[AIH,CN,Bl,BW];exact y () trivial g
 grind[BW,AV]
def nn:bh []=some (I4,0,false):=rfl
def Acv(hc:EN c)(hh:Bt h):∃x,ABz c h=some x/\EN x.2:=by
 unfold ABz;have ⟨x1,Q,_,_,_,I⟩:=Ey hc 12;have j4:∀x:BT×Bq,iq x=some (x.2,x.1):=λ_=>rfl
 have j5:∀(v x:Int) (y:Int×BT) (b:Bool),EN y.2->∃z,XJ h v x y b=some z/\EN z.2:=by
  intro v x y b a;unfold XJ;have ⟨H,e,_,_,_,g⟩:=Ey a x;have ⟨z2,j,_,_,_,B⟩:=Ey g 4;have ⟨z3,q,_,_,_,E⟩:=Ey a (if 1>h.AQ.C7 then 1 else h.AQ.C7);simp only[e,j,q,Of,AB,Bu]
  repeat' split
  all_goals first|exact⟨_,rfl,B⟩|exact⟨_,rfl,a⟩|exact⟨_,rfl,E⟩
 have j3:∀(v x:Int) (y:Int×BT) (b:Bool),EN y.2->∃z,QT h v x y b=some z/\EN z.2:=by
  intro v x y b a;unfold QT;have ⟨H,e,_,_,_,g⟩:=Ey a 14;have ⟨z2,j,_,_,_,B⟩:=Ey g x;have ⟨z3,q,_,_,_,E⟩:=Ey B (if 1>h.AQ.BL then 1 else h.AQ.BL);have ⟨z4,f4,_,_,_,Y⟩:=Ey E (if 1>h.AQ.Cd then 1 else h.AQ.Cd);have ⟨z5,S,J⟩:=oK Y 3;have ⟨z6,X,_,_,_,Z⟩:=Ey J x;simp only[e,j,q,f4,S,X,Of,AB,Bu,AV,Co,LF,LG,LH,LI,Kj,LJ,LK,Y8,j4]
  repeat' split
  all_goals first|exact⟨_,rfl,Z⟩|exact⟨_,rfl,J⟩|exact⟨_,rfl,a⟩|exact j5 _ _ _ _ a
 have G:∀x:Int×BT,EN x.2->∃z,XI h x=some z/\EN z.2:=by
  rintro⟨v,c⟩ a;unfold XI;dsimp only at a ⊢;have ⟨H,e,_,_,_,g⟩:=Ey a 12;simp only[e,Of,AB,Bu,AV]
  repeat' split
  all_goals exact j3 _ _ _ _ g
 have hp:=hh.CR;rw[Q,AB,BX];split
 .rename_i h0;have ⟨o,eo,co⟩:=oK I 3;rw[eo,AB,AV];unfold XH;dsimp only;rw[Bu];split
  .have ⟨H,e,L,_,O,g⟩:=Ey co (h.AG.length:Int);have ⟨k,hk⟩:=Ai L;have:=O (by omega);rw[e,AB,hk,BM (by omega),AB,AV];exact G _ g
  .rw[AV];exact G _ co
 .rw[AV];unfold XH;dsimp only;rw[BW,AV];exact G _ I
theorem AbE(j:EN c)(y:Bt h):∃x,ACE c h=some x/\EN x.2:=by
 have G:=y.CR;unfold ACE;have B:([4,4,5]:List Int)≠[]:=by simp
 refine Xz (n:=h.AG.length) (λi (v:BT)=>((i:Int),v)) (λ_ v=>EN v) (λx:Bq×BT=>EN x.2) (by omega) ?_ j;intro L i v e hi H;unfold ACG;dsimp only;rcases Aa i h.AG.length with a|q
 .rw[CF a,BQ,BM a,AB,Bu];have g:∀x:Bool×BT,EN x.2->∃r,XQ h L i x=some r/\EN r.2:=by
   rintro⟨b,w⟩ E;unfold XQ;dsimp only;have ⟨z,ez,cz,_⟩:=oM E B
   grind[BM,AB,Bv,Bu]
  have ⟨o,eo,co⟩:=oK e 3;rw[eo,AB];simp only[AV];split
  .exact g _ co
  .exact g _ e
 .obtain rfl:i=h.AG.length:=by omega
  rw[C2,BW,AV];unfold ACF;have ⟨o,eo,co⟩:=oK e 4;have ⟨z,ez,_,_,_,cz⟩:=Ey co (if 1>(h.BD.length:Int) then 1 else (h.BD.length:Int));rw[eo,AB,Bu,Of,AB,ez,AB];split
  .exact⟨_,rfl,co⟩
  .exact⟨_,rfl,cz⟩
theorem AbF{s:List UInt8}(j:s.length<=1048576){a:Int}(g:0<=a/\a<=1000)(h:0<=b/\b<=1000):∃n,AJO s a b=some n/\n<=1000:=by
 unfold AJO;have c:0<=(s.length:Int).tdiv 4:=Int.tdiv_nonneg (by omega) (by omega);have e:(s.length:Int).tdiv 4<=s.length:=by rw[Int.tdiv_eq_ediv_of_nonneg (by omega)];omega
 rw[BX,A7 (n:=(s.length:Int).tdiv 4),A7];split
 .exact⟨_,rfl,by omega⟩
 grind
def AaD.fit(c:Dp r=true)(e:AaD r 0 h):Bt h:=by
 have ⟨g,j,a3,a4,q,y,a,B,E⟩:=e;have G:=CO c;exact⟨a3,by omega,by omega,a,by omega,by omega⟩
def Sml(B:Nat)(s:Bj):Prop:=s.Log.Data.length<=B/\s.Ec.Data.length<=B/\s.Odd.Data.length<=B
def Sml.pu3(h:Sml B s)(c:a.Data.length<=B)(k:Int):Sml B (Sj s k a):=by
 unfold Sj;split
 .exact⟨h.1,c,h.2.2⟩
 .exact⟨h.1,h.2.1,c⟩
def Sml.sl3(h:Sml B s)(k:Int):(Ci s k).Data.length<=B:=by
 unfold Ci;split
 .exact h.2.1
 .exact h.2.2
theorem zr(hB:20000<=B)(h:a.Data.length<=B)(s:List UInt8):(E1 a s).1.Data.length<=B:=by
 grind[E1,List.length_append]
theorem ou(a:CY e)(p:Int):∃r,Jz e p=some r/\CY r.1/\r.1.Laid=e.Laid/\(Sml 30000 e.Aq->Sml 30000 r.1.Aq):=by
 have ⟨r,h,_,c⟩:=U6 a p;refine⟨r,h,c,?_⟩;have ⟨n,g,y,B⟩:=RF e.Aq;have ⟨r',j,E,_⟩:=FR e.Aq n;have q:=SB a (w64 (1-n));unfold Jz OU Mq at h;simp only[GL a,F3 a,GZ,AB,AV,g,IL,Nx,Iy a.EW,M1 (Av (FI e.Ax e.Seq) (by omega)),OD,j,Nv a.log,Ut,Bu]at h
 repeat' split at h
 all_goals cases h
 all_goals refine⟨rfl,λhS=>?_⟩
 all_goals first|exact hS|exact hS.pu3 (by simp) _|exact hS.pu3 (zr (by omega) (hS.sl3 _) _) _|exact hS.pu3 (by rw[O1];exact hS.sl3 _) _|exact Sml.pu3 (s:=⟨(NZ e.Aq.Log _).1,e.Aq.Ec,e.Aq.Odd⟩) ⟨Av (tL _ _) hS.1,hS.2⟩ (hS.sl3 _) _
theorem ALx(j:CY e)(p:Int):∃r,Xg e p=some r/\CY r.1/\r.1.Laid=e.Laid/\(Sml 30000 e.Aq->Sml 30000 r.1.Aq):=by
 unfold Xg;rw[GL j,AB];refine LO (λx:Int×Az=>0<=x.1/\x.1<=4/\CY x.2/\x.2.Laid=e.Laid/\(Sml 30000 e.Aq->Sml 30000 x.2.Aq)) (λx=>(4-x.1).toNat) (λr:Az×Bool=>CY r.1/\r.1.Laid=e.Laid/\(Sml 30000 e.Aq->Sml 30000 r.1.Aq)) ?_ big (0,e) ⟨by omega,by omega,j,rfl,id⟩ (Jl _ (by simp));rintro L ⟨i,x⟩ ⟨y,B,c,a,hS⟩ q;unfold Ip Xh;dsimp only at y B c a hS q ⊢;rw[Mv,AB,BX];by_cases g:i<(if p<4 then p else 4)
 .have J:i<4:=by split at g<;>omega
  rw[AW g];have ⟨r,E,G,H,I⟩:=ou c i;rw[E,AB,BG];cases r.2 with
  |false=>exact⟨(x,false),rfl,c,a,hS⟩|true=>
   rw[BQ,A7];exact q (i+1,r.1) ⟨by omega,by omega,G,H.trans a,λh=>I (hS h)⟩ (by dsimp only;omega)
 .rw[AT g,AV];exact⟨(x,true),rfl,c,a,hS⟩
def s7(r:CA):pG r r=true:=by
 unfold pG;rw[(HR (eq:=(·==·)) (by simp)).2 rfl];simp
theorem ATm{q:Bq}(h:(KC e q).2=0):(KC e q).1.Aq.Log.Safe=e.Aq.Log.Safe/\(KC e q).1.Aq.Log.Data=e.Aq.Log.Data++frB (e.Seq+1) (FH q):=by
 have a:=Ug h;have c:=FU a.2.1;have ew:w64 (e.Seq+1)=e.Seq+1:=A7 (by omega) (by omega);unfold KC at h ⊢;rw[ew]at h ⊢;unfold E1 at h ⊢
 grind
def AH2(a:EN c):∃x,AKZ c=some x/\x.1.AX.length<=5/\EN x.2:=by
 unfold AKZ Iq;have ⟨r,er,lr,_,cr⟩:=AV9 a;have ⟨k,ek,ck,_⟩:=oM cr (l:=[0,-1,61,13,11,9,7,6,5,4,9223372036854775807,-9223372036854775808]) (by simp);have ⟨m,em,_,_,_,cm⟩:=Ey ck 20;rw[er,AB,ek,AB,em,AB];rw[CD (by simp only[AI,AM];unfold lim;omega)];have ⟨w,ew,w0,_,w1,cw⟩:=Ey cm 6;have e:0<=w.1/\w.1<=(([60,1,2,3,4]:List Int).length:Int):=by
  have:=w1 (by omega);simp only[AI,AM];omega
 rw[Bu];split
 .rw[AV];exact⟨_,rfl,by simp only[AH,AI,AM];omega,cm⟩
 rw[Bu];split
 .rw[AV];exact⟨_,rfl,by dsimp only;omega,cm⟩
 rw[Bu];split
 .rw[AV];exact⟨_,rfl,by dsimp only;omega,cm⟩
 rw[Bu];split
 .rw[AV];exact⟨_,rfl,by dsimp only;omega,cm⟩
 rw[Bu];split
 .rw[AV];exact⟨_,rfl,by dsimp only;omega,cm⟩
 rw[Bu];split
 .rw[AV];exact⟨_,rfl,by dsimp only;omega,cm⟩
 rw[Bu];split
 .rw[AV];exact⟨_,rfl,by dsimp only;omega,cm⟩
 rw[Bu];split
 .rw[AV];exact⟨_,rfl,by dsimp only;omega,cm⟩
 rw[Bu];split
 .rw[AV];exact⟨_,rfl,by dsimp only;omega,cm⟩
 rw[Bu];split
 .rw[ew,AB,CD (by simp only[AI,AM]at e ⊢;omega),AV];exact⟨_,rfl,Av (List.length_take_le' _ _) (by simp),cw⟩
 .rw[AV];exact⟨_,rfl,by dsimp only;omega,cm⟩
def AAF(c:1<=n)(e:n<=60):G8 n=(⟨⟨n,0,0,n,0⟩,[],⟨List.replicate 9 []⟩⟩,true):=by
 have a:Ep ⟨n,0,0,n,0⟩=true:=by
  unfold Ep;simp only[AF,B9,beq_iff_eq,show w64 (0+0)=0 from rfl];rw[A7];omega
 unfold G8 MH;rw[AW a];rfl
def cC(a:Dp r=true):(DV r).2=true/\RH (DV r).1:=by
 have e:=CO a;unfold DV;rw[AW a];refine⟨rfl,⟨a,by dsimp only;omega,by dsimp only;omega,by simp,⟨by simp,by simp,.nil,.nil⟩,?_,rfl,?_,?_⟩⟩
 .intro i hi;simp only[Ac]at hi;simp only[List.getElem_map];have c:=e.2.2.2.2.2.1 _ (Ak hi);rw[AAF c.1 c.2];refine⟨rfl,rfl,?_,rfl,rfl,?_,?_⟩
  .simp[BC,AR hi]
  .unfold Ep;simp only[AF,B9,beq_iff_eq,show w64 (0+0)=0 from rfl];rw[A7];omega
  .show (0:Int)<=_;omega
 .unfold J0;rw[CG];intro x g;rw[(List.mem_replicate.1 g).2,B9,Ac,A7];omega
 .dsimp only;rw[List.length_replicate];omega
def N9(h:Ev a=true)(c:a.Safe=a.Data.length)(p:Int):KS a p=a:=by
 have e:mT a p=a.Data.length:=by
  unfold mT;split
  .exact c
  .split<;>omega
 unfold KS;rw[AW h,e,Ag,Ch,<-c]
structure AYo(r:AY)(e:Az):Prop where
 nwN:Fl r=(e,true)
 nwH:e.Ax=(DV r).1
 nwR:e.Ax.AQ=r
 nwB:DC e.Ax=true
 nwF:CY e
 nwO:DB e=true
 nwQ:e.Seq=0
 nwL:e.Laid=[]
 nwG:e.Aq.Log=⟨[],0⟩
 nwV:e.Aq.Ec=⟨DF e.Ax 0,((DF e.Ax 0).length:Int)⟩
 nwD:e.Aq.Odd=⟨[],0⟩
 nwC:So e.Aq=true
 nwS:SR e.Aq 0 (e.Ax,0,true)
 nwT:Qz e.Aq 0 (e.Ax,0,true)=(e.Ax,0,true)
 nwU:Q7 e.Aq 0 (e.Ax,0,true)=0
 nwX:HT e.Aq 0 (e.Ax,0,true)=(e,true)
 nwY:∀l,D2 e.Aq l=e.Aq
def Acr(I:r.AX.length<=1048576)(E:Dp r=true):∃e,AYo r e:=by
 have fe:=VC I;have ⟨S,J⟩:=cC E;have a:=G0.2 J;have G:=Ia I;have hT:=FI (DV r).1 0;have hE:Fl r=(⟨(DV r).1,⟨⟨[],0⟩,⟨DF (DV r).1 0,((DF (DV r).1 0).length:Int)⟩,⟨[],0⟩⟩,0,[]⟩,true):=by unfold Fl;rw[AW S]
 have hR:(DV r).1.AQ=r:=by unfold DV;rw[AW E]
 rw[hE]at fe;have hread:=tM a G (q:=0) rfl;have ⟨h,H⟩:∃h,h=(DV r).1:=⟨_,rfl⟩;rw[<-H]at hE hR a G hT fe hread J;generalize hTT:DF h 0=T at hE hT fe hread;have hA:Ev ⟨T,(T.length:Int)⟩=true:=Dm.2 ⟨by dsimp only;omega,by dsimp only;omega,by dsimp only;omega⟩;have y:Ev ⟨[],0⟩=true:=rfl;have g:GR ⟨⟨[],0⟩,⟨T,(T.length:Int)⟩,⟨[],0⟩⟩=true:=by unfold GR;simp[hA,y]
 have B:DB ⟨h,⟨⟨[],0⟩,⟨T,(T.length:Int)⟩,⟨[],0⟩⟩,0,[]⟩=true:=by
  unfold DB;simp only[a,g,CU];rfl
 have L:LB ⟨⟨[],0⟩,⟨T,(T.length:Int)⟩,⟨[],0⟩⟩ 0=some (h,0,true):=by
  unfold LB;rw[Jb,AB,FB,AB,show Ci ⟨⟨[],0⟩,⟨T,(T.length:Int)⟩,⟨[],0⟩⟩ 0=⟨T,(T.length:Int)⟩ from rfl,hA,BG,BQ,CD (by dsimp only;omega),Ag,Ch,hread,AB]
 have s1:LB ⟨⟨[],0⟩,⟨T,(T.length:Int)⟩,⟨[],0⟩⟩ 1=some (I4,0,false):=by
  unfold LB;rw[Jb,AB,FB,AB,show Ci ⟨⟨[],0⟩,⟨T,(T.length:Int)⟩,⟨[],0⟩⟩ 1=⟨[],0⟩ from rfl,y,BG,BQ,CD (by simp),show List.take (Int.toNat 0) ([]:List UInt8)=[] from rfl,nn,AB]
 have hN:VA ⟨⟨[],0⟩,⟨T,(T.length:Int)⟩,⟨[],0⟩⟩=some 0:=by
  unfold VA;rw[L,s1,AB,AB];unfold XO TG;simp[Bu,AV]
 have ⟨n,q,R⟩:=AHi ⟨⟨[],0⟩,⟨T,(T.length:Int)⟩,⟨[],0⟩⟩;have O:n=0:=by have:=R.im;rw[hN]at this;exact(Option.some.inj this).symm
 subst O;have Q:q=(h,0,true):=by have:=R.ir;rw[L]at this;exact(Option.some.inj this).symm
 subst Q;have j:EI ([]:List UInt8)=[]:=Fk.1 (by have:=MD [];simpa using this);have c:Qz ⟨⟨[],0⟩,⟨T,(T.length:Int)⟩,⟨[],0⟩⟩ 0 (h,0,true)=(h,0,true):=by
  unfold Qz;rw[AW ⟨g,by omega⟩,j];rfl
 have hused:Q7 ⟨⟨[],0⟩,⟨T,(T.length:Int)⟩,⟨[],0⟩⟩ 0 (h,0,true)=0:=by
  unfold Q7;rw[AW ⟨g,by omega⟩,j];rfl
 have hcalm:So ⟨⟨[],0⟩,⟨T,(T.length:Int)⟩,⟨[],0⟩⟩=true:=by simp[So]
 have hboot:HT ⟨⟨[],0⟩,⟨T,(T.length:Int)⟩,⟨[],0⟩⟩ 0 (h,0,true)=(⟨h,⟨⟨[],0⟩,⟨T,(T.length:Int)⟩,⟨[],0⟩⟩,0,[]⟩,true):=by
  unfold HT;rw[c,hused,AW ⟨rfl,hcalm⟩];rfl
 have hfall:∀l,D2 ⟨⟨[],0⟩,⟨T,(T.length:Int)⟩,⟨[],0⟩⟩ l=⟨⟨[],0⟩,⟨T,(T.length:Int)⟩,⟨[],0⟩⟩:=by
  intro l;unfold D2;dsimp only;rw[N9 y rfl,N9 hA rfl,N9 y rfl]
 exact⟨_,hE,H,hR,a,fe,B,rfl,rfl,rfl,by rw[hTT],rfl,hcalm,R,c,hused,hboot,hfall⟩
def bL{c:Bj}{a:Int}(h:Ci s k=Ci c a):Hm s k=Hm c a:=by
 unfold Hm;rw[IL,IL,h]
def AMn(x y:AE×Int×Bool):Int:=if x.2.2=true then (if y.2.2=true/\¬x.2.1>=y.2.1 then 1 else 0) else if y.2.2=true then 1 else -1
def UG(e:Hm s 0=some x)(g:Hm s 1=some y):Jy s=some (AMn x y):=by
 unfold Jy TF AMn;rw[e,g,AB,AB];cases a:x.2.2<;>cases c:y.2.2<;>simp[Bu,AV,a,c];by_cases h:y.2.1<=x.2.1
 .simp[h]
 .simp[h]
def JJ(e:Az)(k:Int)(a:Bp):Az:=⟨e.Ax,Sj e.Aq k a,e.Seq,e.Laid⟩
def zK{e:Az}(a:CY e){p:Int}{r:Az}(h:Jz e p=some (r,true)):DB e=true/\e.Laid=[]/\∃n,Jy e.Aq=some n/\(n=0\/n=1) /\
 ((p=0/\r=JJ e (w64 (1-n)) ⟨[],0⟩)\/(p=1/\(E1 (Ci e.Aq (w64 (1-n))) (DF e.Ax e.Seq)).2=true/\r=JJ e (w64 (1-n)) (E1 (Ci e.Aq (w64 (1-n))) (DF e.Ax e.Seq)).1) \/
  (p=2/\r=JJ e (w64 (1-n)) (M4 (Ci e.Aq (w64 (1-n))))) \/
  (p≠0/\p≠1/\p≠2/\∃q,Hm e.Aq n=some q/\(NZ e.Aq.Log (WO q.2.1 0 (EI e.Aq.Log.Data))).2=true/\r=⟨e.Ax,⟨(NZ e.Aq.Log (WO q.2.1 0 (EI e.Aq.Log.Data))).1,e.Aq.Ec,e.Aq.Odd⟩,e.Seq,e.Laid⟩)):=by
 have ⟨n,I,O,Q⟩:=RF e.Aq;have ⟨q,J,S,_⟩:=FR e.Aq n;have L:=SB a (w64 (1-n));unfold Jz OU Mq at h;simp only[GL a,F3 a,GZ,AB,AV,I]at h;have bad:∀x:Az,(some (x,false):AA (Az×Bool))=some (r,true)->False:=λx g=>by cases g
 cases E:DB e with
 |false=>rw[E,ER,BQ,BQ]at h;exact(bad _ h).elim|true=>
 rw[E,Bl,BW]at h;by_cases G:(e.Laid.length:Int)>0
 .rw[decide_eq_true G,BQ,BQ]at h;exact(bad _ h).elim
 rw[decide_eq_false G,BW]at h;cases hi:inB p 0 3 with
 |false=>rw[hi,ER,BQ]at h;exact(bad _ h).elim|true=>
 rw[hi,Bl,BW]at h;by_cases H:n<0
 .rw[decide_eq_true H,BQ]at h;exact(bad _ h).elim
 simp only[decide_eq_false H,BW,IL,AB,Nx,AV,Iy a.EW,M1 (Av (FI e.Ax e.Seq) (by omega)),OD,J,Nv a.log,Ut,GL a,BG,BQ]at h;refine⟨rfl,Fk.1 (by omega),n,I,by omega,?_⟩;cases j:p==0 with
 |true=>
  rw[j,BQ]at h;cases h;exact .inl ⟨by simpa using j,rfl⟩
 |false=>
 rw[j,BW]at h;cases y:p==1 with
 |true=>
  rw[y,BQ]at h;cases c:(E1 (Ci e.Aq (w64 (1-n))) (DF e.Ax e.Seq)).2 with
  |true=>
   rw[c,BQ]at h;cases h;exact .inr (.inl ⟨by simpa using y,rfl,rfl⟩)
  |false=>rw[c,BW]at h;exact(bad _ h).elim
 |false=>
 rw[y,BW]at h;cases B:p==2 with
 |true=>
  rw[B,BQ]at h;cases h;exact .inr (.inr (.inl ⟨by simpa using B,rfl⟩))
 |false=>
 rw[B,BW]at h;refine .inr (.inr (.inr ⟨by simpa using j,by simpa using y,by simpa using B,q,J,?_⟩));cases c:(NZ e.Aq.Log (WO q.2.1 0 (EI e.Aq.Log.Data))).2 with
 |true=>
  rw[c,BQ]at h;cases h;rw[Qx];exact⟨rfl,rfl⟩
 |false=>rw[c,BW]at h;exact(bad _ h).elim
def rdI{r:AE×Int×Bool}(h:LB s k=some r):Hm s k=some r:=by
 have ⟨x,a,c,_⟩:=FR s k;rw[a,<-c,h]
def AHg(h:Ci s k=⟨T,0⟩)(hT:T.length<=20000):Hm s k=some (I4,0,false):=by
 refine rdI ?_;unfold LB;rw[Jb,AB,FB,AB,h,Dm.2 ⟨by dsimp only;omega,by dsimp only;omega,by dsimp only;omega⟩,BG,BQ,CD (by dsimp only;omega),show List.take (Int.toNat 0) T=[] from rfl,nn,AB]
def AXw(a:DC h=true)(c:Bt h)(e:inB q 0 1000000=true)(g:Ci s k=⟨DF h q,((DF h q).length:Int)⟩):Hm s k=some (h,q,true):=by
 have hT:=FI h q;refine rdI ?_;unfold LB;rw[Jb,AB,FB,AB,g,Dm.2 ⟨by dsimp only;omega,by dsimp only;omega,by dsimp only;omega⟩,BG,BQ,CD (by dsimp only;omega),Ag,Ch,tM a c e,AB]
def Two(n k:Int):Prop:=n=0/\k=1\/n=1/\k=0
def Two.pu3(h:Two n k)(s:Bj)(a:Bp):Ci (Sj s k a) k=a/\Ci (Sj s k a) n=Ci s n/\(Sj s k a).Log=s.Log:=by
 rcases h with ⟨rfl,rfl⟩|⟨rfl,rfl⟩<;>exact⟨rfl,rfl,rfl⟩
def Two.ot3(h:n=0\/n=1):Two n (w64 (1-n)):=by
 rcases h with rfl|rfl
 .exact .inl ⟨rfl,rfl⟩
 .exact .inr ⟨rfl,rfl⟩
def Two.nw3(h:Two n k)(g:Hm s n=some x)(j:Hm s k=some y) :
 (y.2.2=false->x.2.2=true->Jy s=some n)/\(x.2.2=true->y.2.2=true->x.2.1<y.2.1->Jy s=some k)/\(x.2.2=true->y.2.2=true->x.2.1<=y.2.1->Jy s=some n\/Jy s=some k):=by
 rcases h with ⟨rfl,rfl⟩|⟨rfl,rfl⟩
 .rw[UG g j];unfold AMn;refine⟨λa c=>by simp[a,c],λa c e=>by simp[a,c];omega,λa c e=>?_⟩;by_cases q:x.2.1>=y.2.1
  .left;simp[a,q]
  .right;simp[a,c];omega
 .rw[UG j g];unfold AMn;refine⟨λa c=>by simp[a,c],λa c e=>by simp[a,c];omega,λa c e=>?_⟩;right;simp[a,c];omega
def Two.bd3(h:Two n k)(a:Jy s=some n)(e:Hm s n=some x):x.2.2=true:=by
 have ⟨y,g,_⟩:=FR s k;rcases h with ⟨rfl,rfl⟩|⟨rfl,rfl⟩
 .rw[UG e g]at a;unfold AMn at a;cases c:x.2.2 with|true=>rfl|false=>rw[c]at a;simp at a;split at a<;>omega
 .rw[UG g e]at a;unfold AMn at a;cases c:x.2.2 with|true=>rfl|false=>rw[c]at a;simp at a;split at a<;>omega
def ATw{a g j:Az}(he:CY e)(h1:CY a)(h2:CY g)(a0:Jz e 0=some (a,true))(a1:Jz a 1=some (g,true))(a2:Jz g 2=some (j,true)) :
 DB e=true/\e.Laid=[]/\∃n k x,Two n k/\Jy e.Aq=some n/\Hm e.Aq n=some x/\x.2.2=true/\Ci j.Aq n=Ci e.Aq n/\Ci j.Aq k=⟨DF e.Ax e.Seq,((DF e.Ax e.Seq).length:Int)⟩ /\
  j.Aq.Log=e.Aq.Log/\j.Ax=e.Ax/\j.Seq=e.Seq/\j.Laid=e.Laid:=by
 have hT:=FI e.Ax e.Seq;have ⟨b0,l0,n,Z,L,Q⟩:=zK he a0;have tw:=Two.ot3 L;generalize w64 (1-n)=k at tw Q;have ⟨x,G,_⟩:=FR e.Aq n;have q:=tw.bd3 Z G;have h:a=JJ e k ⟨[],0⟩:=by
  rcases Q with c|c|c|c
  .exact c.2
  .exact absurd c.1 (by decide)
  .exact absurd c.1 (by decide)
  .exact absurd rfl c.1
 have ⟨b1,_,m,hm,hm2,S⟩:=zK h1 a1;have p1:=tw.pu3 e.Aq ⟨[],0⟩;have em:m=n:=by
  have:=(tw.nw3 (s:=a.Aq) (x:=x) (y:=(I4,0,false)) (by rw[h];exact(bL p1.2.1).trans G) (by rw[h];exact AHg p1.1 (by simp))).1 rfl q;rw[hm]at this;exact Option.some.inj this
 subst em;have ek:w64 (1-m)=k:=by rcases tw with ⟨rfl,rfl⟩|⟨rfl,rfl⟩<;>rfl
 rw[ek]at S;have s1:Ci a.Aq k=⟨[],0⟩:=by rw[h];exact p1.1
 have I:E1 ⟨[],0⟩ (DF a.Ax a.Seq)=(⟨DF e.Ax e.Seq,0⟩,true):=by
  rw[h];unfold E1 JJ;dsimp only;rw[AW ⟨rfl,by simp;omega⟩];rfl
 have B:g=JJ a k ⟨DF e.Ax e.Seq,0⟩:=by
  rcases S with c|c|c|c
  .exact absurd c.1 (by decide)
  .rw[c.2.2,s1,I]
  .exact absurd c.1 (by decide)
  .exact absurd rfl c.2.1
 have ⟨b2,_,m',J,Y,X⟩:=zK h2 a2;have p2:=tw.pu3 a.Aq ⟨DF e.Ax e.Seq,0⟩;have so:Ci g.Aq m=Ci e.Aq m:=by rw[B];refine p2.2.1.trans ?_;rw[h];exact p1.2.1
 have H:m'=m:=by
  have:=(tw.nw3 (s:=g.Aq) (x:=x) (y:=(I4,0,false)) ((bL so).trans G) (by rw[B];exact AHg p2.1 (by omega))).1 rfl q;rw[J]at this;exact Option.some.inj this
 subst H;rw[ek]at X;have s2:Ci g.Aq k=⟨DF e.Ax e.Seq,0⟩:=by rw[B];exact p2.1
 have O:M4 ⟨DF e.Ax e.Seq,0⟩=⟨DF e.Ax e.Seq,((DF e.Ax e.Seq).length:Int)⟩:=by
  unfold M4;rw[AW (Dm.2 ⟨by dsimp only;omega,by dsimp only;omega,by dsimp only;omega⟩)]
 have E:j=JJ g k ⟨DF e.Ax e.Seq,((DF e.Ax e.Seq).length:Int)⟩:=by
  rcases X with c|c|c|c
  .exact absurd c.1 (by decide)
  .exact absurd c.1 (by decide)
  .rw[c.2,s2,O]
  .exact absurd rfl c.2.2.1
 have p3:=tw.pu3 g.Aq ⟨DF e.Ax e.Seq,((DF e.Ax e.Seq).length:Int)⟩;refine⟨b0,l0,m',k,x,tw,Z,G,q,?_,?_,?_,?_,?_,?_⟩
 .rw[E];exact p3.2.1.trans so
 .rw[E];exact p3.1
 .rw[E];refine p3.2.2.trans ?_;rw[B];refine p2.2.2.trans ?_;rw[h];exact p1.2.2
 .rw[E,B,h];rfl
 .rw[E,B,h];rfl
 .rw[E,B,h];rfl
theorem Hf(h:GR s=true):Ev s.Log=true/\Ev s.Ec=true/\Ev s.Odd=true:=by
 unfold GR at h;simpa[AF] using h
def AZ4(j:EN c):∃x,AC9 c=some x/\EN x.2:=by
 unfold AC9;have ⟨k,ek,y,_,B,ck⟩:=Ey j 5;have:=B (by omega);have ⟨n,q⟩:=Ai y;rw[ek,AB];refine Xz (n:=n) (λi (v:List Int×BT)=>(v.1,(i:Int),v.2)) (λi v=>v.1.length=i/\EN v.2) (λx:List Int×BT=>EN x.2) (by omega) ?_ (v:=([],k.2)) ⟨rfl,ck⟩;rintro L i ⟨l,c⟩ ⟨e,a⟩ hi h;unfold ADB ADA;dsimp only at e a h ⊢;rw[q,dec_lt];rcases Aa i n with g|g
 .have ⟨x,ex,cx,_⟩:=oM a (l:=[0,1,2,5,30,-1,9223372036854775807,-9223372036854775808]) (by simp);rw[decide_eq_true g,BQ,ex,AB,CD (by simp only[AI,AM];unfold lim;omega),Bv g];exact h (_,_) ⟨by simp[e],cx⟩ g
 .rw[decide_eq_false (by omega),BW,AV];exact⟨_,rfl,a⟩
theorem AWy{l:List CA}(a:l.length<=1048576)(c:∀x∈l,x.Ids.length<=1048576):ADC l=some l:=by
 have hlim:=Acx;unfold ADC;refine(K5 (λr=>[r]) some a 1 (by simp) (v0:=[]) ?_ ?_).trans (by simp)
 .intro L i h v e;have g:=c _ (Ak h);unfold lH;dsimp only;rw[CF h,BQ,BM h,AB,AB,CD (by omega),CD (by simp at e ⊢;omega)];rfl
 grind[lH,ADD,BW,AV]
theorem AWx{l:List CA}(a:l.length<=1048576)(c:∀x∈l,x.Ids.length<=1048576):AKG l=some l:=by
 have hlim:=Acx;unfold AKG;refine(K5 (λr=>[r]) some a 1 (by simp) (v0:=[]) ?_ ?_).trans (by simp)
 .intro L i h v g;have e:=c _ (Ak h);unfold kg;dsimp only;rw[CF h,BQ,BM h,AB,UM e,AB,CD (by simp at g ⊢;omega)]
 grind[kg,ACu,BW,AV]
def AME(a:G2 w):ADE w=some w:=by
 have hlim:=Acx;have c:=a.done;unfold ADE;simp only[GL a.MC,AB,AWy a.AVh a.ids,CD (show 0+w.Di.length<=lim by omega),KV,Co,Be]
def AMD(a:G2 w):AKH w=some w:=by
 have hlim:=Acx;have c:=a.done;unfold AKH;simp only[OO a.MC,AB,AWx a.AVh a.ids,CD (show 0+w.Di.length<=lim by omega)]
def svF(w:BV)(b:Az×Bool):Int:=if DB w.Ad=true/\b.2=true then w64 (w64 (b.1.Seq-w.Ad.Seq)+w.Ad.Laid.length) else -1
def zh(g:G2 w){l:List Int}{q:AE×Int×Bool}(h:SR (D2 w.Ad.Aq l) n q) :
 AKN w l=some (svF w (HT (D2 w.Ad.Aq l) n q))/\AC4 w l=some (svF w (HT (D2 w.Ad.Aq l) n q)):=by
 have a:=g.MC;have ⟨j,y,B⟩:=Zf a l;have ⟨c,e,_⟩:=AaG j y B h;unfold AKN AC4 svF;simp only[F3 a,Iw a,AB,ch,cG,c,e];cases DB w.Ad
 .exact⟨rfl,rfl⟩
 .cases (HT (D2 w.Ad.Aq l) n q).2<;>exact⟨rfl,rfl⟩
def rj(w:BV)(b:Az×Bool):BV×Int:=
 if inB (svF w b) 0 w.Ad.Laid.length=false then (w,21) else
 (⟨b.1,w.Di++w.Ad.Laid.take (svF w b).toNat,w.Cc++(Dr (w.Ad.Laid.take (svF w b).toNat) w.Ad.Ax).2,w64 (w.JL+1)⟩,0)
structure Hap(w:BV)(a:DR)(r:BV×Int):Prop where
 hpK:inB a.Kind 1 4=false->r=(w,26)
 hpB:inB a.Kind 1 4=true->DB w.Ad=false->r=(w,21)
 hpL:DB w.Ad=true->a.Kind=1->r=(⟨(KC w.Ad a.Req).1,w.Di,w.Cc,w.JL⟩,(KC w.Ad a.Req).2)
 hpS:DB w.Ad=true->a.Kind=2->r=(⟨(Lw w.Ad).1,w.Di++w.Ad.Laid,w.Cc++(Lw w.Ad).2,w.JL⟩,0)
 hpM:DB w.Ad=true->a.Kind=3->∃m,Xg w.Ad a.N_=some m/\r=(⟨m.1,w.Di,w.Cc,w.JL⟩,if m.2=true then 0 else 25)
 hpF:DB w.Ad=true->a.Kind=4->∃n q,SR (D2 w.Ad.Aq a.Nb) n q/\r=rj w (HT (D2 w.Ad.Aq a.Nb) n q)
structure pX(w:BV):Prop where
 wrF:G2 w
 wrD:w.Di.length+w.Ad.Laid.length<=1048576
 wrP:w.Cc.length+w.Ad.Laid.length<=1048576
def RE{w:BV}(O:pX w)(a:DR):∃r,TO w a=some r/\rZ w a=some r/\G2 r.1/\Hap w a r:=by
 have hlim:=Acx;have c:=O.wrF;have e:=c.MC;have hd:=O.wrD;have hp:=O.wrP;have ⟨n,q,R⟩:=AHi (D2 w.Ad.Aq a.Nb);have ⟨s1,s2⟩:=zh c R;have ⟨Y,Z,l3⟩:=Zf e a.Nb;have ⟨S,X,bf⟩:=AaG Y Z l3 R;have ⟨m,m1,m2,mf⟩:=ALy e a.N_;have ⟨z1,z2,z3⟩:=tJ e;have hz:(Lw w.Ad).2.length<=w.Ad.Laid.length:=by
  unfold Lw;split
  .simp
  .have:=(ID w.Ad.Laid e.EW).2.1;dsimp only;omega
 have ⟨y1,y2,y3⟩:=ID (w.Ad.Laid.take (svF w (HT (D2 w.Ad.Aq a.Nb) n q)).toNat) e.EW;have yl:(w.Ad.Laid.take (svF w (HT (D2 w.Ad.Aq a.Nb) n q)).toNat).length<=w.Ad.Laid.length:=by rw[Aj];omega
 unfold TO rZ TP Xj Xk APs;simp only[AME c,AMD c,AB,GZ,Fv,BG,F3 e,Iw e,AV1 e,ATY e,AOa e,AMb e,m1,m2,s1,s2,AV,ch,cG,S,X,List.drop_zero,FX];by_cases B:inB a.Kind 1 4=true
 case neg=>
  rw[DG]at B;have H:=B;unfold inB at H;rw[decide_eq_false_iff_not]at H;rw[B,BW,BW];exact⟨_,rfl,rfl,c,λ_=>rfl,by simp[B],λ_ h=>absurd h (by omega),λ_ h=>absurd h (by omega),λ_ h=>absurd h (by omega),λ_ h=>absurd h (by omega)⟩
 rw[B,BQ,BQ];cases g:DB w.Ad with
 |false=>
  rw[BW,BW,BQ];exact⟨_,rfl,rfl,c,by simp[B],λ_ _=>rfl,by simp[g],by simp[g],by simp[g],by simp[g]⟩
 |true=>
  rw[B9]at B;rw[BQ,BQ];by_cases E:a.Kind=1
  .rw[E];refine⟨_,rfl,rfl,⟨ADq e _,c.done,c.AVh,c.ids⟩,by simp[inB,E],by simp[g],λ_ _=>rfl,by simp[E],by simp[E],by simp[E]⟩
  by_cases G:a.Kind=2
  .rw[G,CD (by omega),CD (by omega)];refine⟨_,rfl,?_,⟨z1,?_,?_,?_⟩,by simp[inB,G],by simp[g],by simp[G],λ_ _=>rfl,by simp[G],by simp[G]⟩
   .rw[show ((2:Int)==4)=false from rfl,BW,BW,show ((2:Int)==1)=false from rfl,BW,show ((2:Int)==2)=true from rfl,BQ]
   .rw[AH];omega
   .rw[AH];omega
   .intro r I;rcases Bs.1 I with h|h
    .exact c.ids r h
    .exact z3 r h
  by_cases j:a.Kind=3
  .rw[j];cases Q:m.2 with|false=>exact⟨_,rfl,rfl,⟨mf,c.done,c.AVh,c.ids⟩,by simp[inB,j],by simp[g],by simp[j],by simp[j],λ_ _=>⟨m,m1,by rw[Q];rfl⟩,by simp[j]⟩|true=>exact⟨_,rfl,rfl,⟨mf,c.done,c.AVh,c.ids⟩,by simp[inB,j],by simp[g],by simp[j],by simp[j],λ_ _=>⟨m,m1,by rw[Q];rfl⟩,by simp[j]⟩
  have y:a.Kind=4:=by omega
  rw[y,show ((4:Int)==1)=false from rfl,BW,show ((4:Int)==2)=false from rfl,BW,show ((4:Int)==3)=false from rfl,BW,show ((4:Int)==4)=true from rfl,BQ];cases J:inB (svF w (HT (D2 w.Ad.Aq a.Nb) n q)) 0 w.Ad.Laid.length with
  |false=>
   rw[BW,AB,BW];exact⟨_,rfl,rfl,c,by simp[inB,y],by simp[g],by simp[y],by simp[y],by simp[y],λ_ _=>⟨n,q,R,by unfold rj;rw[AW J]⟩⟩
  |true=>
   have L:=B9.1 J;have yd:=SD e.EW (l:=w.Ad.Laid.take (svF w (HT (D2 w.Ad.Aq a.Nb) n q)).toNat) (by have:=e.laid;omega);have yi:=Rl e.EW (l:=w.Ad.Laid.take (svF w (HT (D2 w.Ad.Aq a.Nb) n q)).toNat) (by have:=e.laid;omega);have E:w.Di.length+(w.Ad.Laid.take (svF w (HT (D2 w.Ad.Aq a.Nb) n q)).toNat).length<=lim:=by omega
   have G:w.Cc.length+(Dr (w.Ad.Laid.take (svF w (HT (D2 w.Ad.Aq a.Nb) n q)).toNat) w.Ad.Ax).2.length<=lim:=by omega
   simp only[BQ,BW,CD L,CD E,CD G,yd,yi,AB,Co,Ij,Bl];refine⟨_,rfl,rfl,⟨bf,?_,?_,?_⟩,by simp[inB,y],by simp[g],by simp[y],by simp[y],by simp[y],λ_ _=>⟨n,q,R,by unfold rj;rw[J,AT (by simp)]⟩⟩
   .rw[AH];omega
   .rw[AH];omega
   .intro r I;rcases Bs.1 I with h|h
    .exact c.ids r h
    .have:=y3 r h;omega
def AL5(a:s.Log.Data.length<=1048576/\s.Ec.Data.length<=1048576/\s.Odd.Data.length<=1048576){q:AE×Int×Bool}(h:SR s n q):CY (HT s n q).1:=by
 obtain⟨_,_,c⟩:=recovered a.1 h;have e:=tZ s.Log (Q7 s n q);unfold HT;split
 .exact⟨c,by dsimp only;rw[O1];omega,a.2.1,a.2.2,by simp⟩
 .exact Pf
def tl(g:pX w)(a:DR):∃r,TO w a=some r/\G2 r.1/\Hap w a r:=by
 obtain⟨r,c,_,e⟩:=RE g a;exact⟨r,c,e⟩
theorem zc{a:DR}{r:BV×Int}(B:G2 w)(h:Hap w a r)(j:w.Ad.Laid.length<=8):r.1.Ad.Laid.length<=8/\r.1.Di.length<=w.Di.length+8/\r.1.Cc.length<=w.Cc.length+8:=by
 have e:=B.MC;by_cases g:inB a.Kind 1 4=true
 case neg=>rw[h.hpK (by simpa using g)];exact⟨j,by dsimp only;omega,by dsimp only;omega⟩
 by_cases c:DB w.Ad=true
 case neg=>rw[h.hpB g (by simpa using c)];exact⟨j,by dsimp only;omega,by dsimp only;omega⟩
 rw[B9]at g;by_cases G:a.Kind=1
 .rw[h.hpL c G];refine⟨?_,by dsimp only;omega,by dsimp only;omega⟩;dsimp only;unfold KC
  grind
 by_cases H:a.Kind=2
 .rw[h.hpS c H];have:=(ID w.Ad.Laid e.EW).2.1
  grind[Lw,List.length_append]
 by_cases I:a.Kind=3
 .have ⟨m,m1,m2⟩:=h.hpM c I;have ⟨O,J,_,L,_⟩:=ALx e a.N_
  grind[Option.some.inj]
 have ⟨n,q,R,y⟩:=h.hpF c (by omega);rw[y];unfold rj;split
 .exact⟨j,by dsimp only;omega,by dsimp only;omega⟩
 .have:=(ID (w.Ad.Laid.take (svF w (HT (D2 w.Ad.Aq a.Nb) n q)).toNat) e.EW).2.1;have E:(HT (D2 w.Ad.Aq a.Nb) n q).1.Laid=[]:=by unfold HT;split<;>rfl
  refine⟨by dsimp only;rw[E];simp,?_,?_⟩<;>(dsimp only;rw[AH,Aj]at *;omega)
theorem bK{l:List DR}(E:l.length<=60):∀(m n:Nat) (i:Nat) (v:List Int) (w:BV),i+m=l.length->m<n->v.length=i->G2 w->w.Ad.Laid.length<=8->w.Di.length<=8*i->w.Cc.length<=8*i ->
 ∃x,A9 (OV l) n (v,(i:Int),w)=some x/\A9 (Xm l) n (v,(i:Int),w)=some x/\G2 x.1/\x.2.1.length<=60
 |m,0,i,v,w,_,h,_,_,_,_,_=>absurd h (by omega)|m,n+1,i,v,w,hi,Z,G,j,y,Y,hp=>by
  have hlim:=Acx;have I:=λQ w' a b c d e f=>bK E (m-1) n (i+1) Q w' a (by omega) b c d e f
  rw[DW,DW];generalize A9 (OV l) n=L at *;generalize A9 (Xm l) n=M at *;unfold OV Xm kh ACw;dsimp only;rcases Aa i l.length with h|h
  .have ⟨r,J,O,B,H⟩:=RE (w:=w) ⟨j,by omega,by omega⟩ l[i];have ⟨q,S,X⟩:=zc j H y;rw[CF h,BQ,BQ,BM h,AB,AB,J,O,AB,AB,AB,Co,Y7,CD (by simp only[AI,AM];omega),CD (by simp only[AI,AM];omega),Bv h];exact I _ _ (by omega) (by simp[G]) B q (by omega) (by omega)
  .have g:decide ((i:Int)<(l.length:Int))=false:=by rw[decide_eq_false_iff_not];omega
   rw[g,BW,BW,AV]
   grind
def zf{r:AY}(c:r.AX.length<=1048576){l:List DR}(j:l.length<=1048576):∃x,ACv r l=some x/\AKI r l=some x/\G2 x.1/\x.2.1.length<=60:=by
 have g:=ZB c;have a:(D4 r).1.Ad.Laid=[]/\(D4 r).1.Di=[]/\(D4 r).1.Cc=[]:=by
  unfold D4 Fl;split<;>(try split)<;>exact⟨rfl,rfl,rfl⟩
 unfold ACv AKI;simp only[V2 c,mu c,AB,BG,AV];unfold Xl kj;have e:∀b:Bool,∃x:BV×List Int×Bool,(some ((BV.mk (Az.mk (AE.mk (AY.mk [] 0 0 0 0 0 0 0 0) 0 0 [] [] [] []) (Bj.mk (Bp.mk [] 0) (Bp.mk [] 0) (Bp.mk [] 0)) 0 []) [] [] 0,[],false)):AA (BV×List Int×Bool))=some x/\some ((BV.mk (Az.mk (AE.mk (AY.mk [] 0 0 0 0 0 0 0 0) 0 0 [] [] [] []) (Bj.mk (Bp.mk [] 0) (Bp.mk [] 0) (Bp.mk [] 0)) 0 []) [] [] 0,[],false))=some x/\G2 x.1/\x.2.1.length<=60:=
  λ_=>⟨_,rfl,rfl,⟨Pf,by simp,by simp,by simp⟩,by simp⟩
 cases (D4 r).2 with
 |false=>simp only[BW,BQ];exact e true|true=>
  rw[BQ,BQ];by_cases h:(l.length:Int)>60
  .rw[decide_eq_true h,BQ,BQ];exact e true
  .rw[decide_eq_false h,BW,BW];exact bK (by omega) l.length big 0 [] _ (by omega) (by have:=Kh;omega) rfl g (by simp[a.1]) (by simp[a.2.1]) (by simp[a.2.2])
def jT(p:Int):List Bq->List UInt8| []=>[]|x::l=>frB p (FH x)++jT (p+1) l
def jF(o p:Int):List Bq->List B5| []=>[]|x::l=>⟨p,FH x,o+(frB p (FH x)).length⟩::jF (o+(frB p (FH x)).length) (p+1) l
def jOk(p:Int):List Bq->Prop| []=>True|x::l=>Pm p (FH x)/\GJ x=true/\jOk (p+1) l
theorem xm:∀(t u:List Bq) (p:Int),jT p (t++u)=jT p t++jT (p+t.length) u
 | [],u,p=>by simp[jT]|b::t,u,p=>by
  simp only[Bm,jT,xm t u (p+1),BR,AI]
  grind
theorem YN:∀{t u:List Bq} {p:Int},jOk p (t++u)↔jOk p t/\jOk (p+t.length) u
 | [],u,p=>by simp[jOk]|b::t,u,p=>by
  simp only[Bm,jOk,YN (t:=t),AI,and_assoc]
  grind
def xk:∀{l:List Bq} {p:Int},jOk p l->∀x∈l,GJ x=true
 |y::l,p,h,x,a=>by
  rcases Ae.1 a with rfl|a
  .exact h.2.1
  .exact xk h.2.2 x a
def ATh:∀{l:List Bq} {p:Int},jOk p l->l.length<=(jT p l).length
 | [],p,h=>by simp[jT]|b::t,p,h=>by
  have a:=PQ h.1;have c:=ATh h.2.2;simp only[jT,AH,AI];omega
def AYT:∀(l:List Bq) (p:Int) (o c f:Nat) (s:List UInt8),jOk p l->s.drop o=jT p l->o<=c->c<=s.length->c<f+o ->
 ∃k,k<=l.length/\frs f (s.take c) o=jF o p (l.take k)/\o+(jT p (l.take k)).length<=c/\∀j,j<=l.length->o+(jT p (l.take j)).length<=c->j<=k
 |l,p,o,c,0,s,_,_,y,_,h=>by omega| [],p,o,c,f+1,s,g,E,J,L,X=>by
  refine⟨0,by simp,?_,by simpa[jT] using J,λj G _=>G⟩;unfold frs;have I:(Pl (s.take c) o).2=false:=by
   unfold Pl;rw[AW (by rw[Aj];omega),Ag,Ld,E,Ue];intro q b y B;have:=PQ y;have Q:=B.length_le;rw[Aj]at Q;have h4:(jT p []).length=0:=rfl;omega
  rw[AT (by rw[I];simp)];rfl
 |b::t,p,o,c,f+1,s,g,E,J,L,X=>by
  have hb:=PQ g.1;have e:Pl (s.take c) o=ADW ((jT p (b::t)).take (c-o)) o:=by
   unfold Pl;rw[AW (by rw[Aj];omega),Ag,Ld,E]
  have a:frB p (FH b) <+: jT p (b::t):=⟨_,rfl⟩;unfold frs;by_cases Y:o+(frB p (FH b)).length<=c
  .have S:Pl (s.take c) o=(⟨p,FH b,(o:Int)+(frB p (FH b)).length⟩,true):=by
    rw[e,AKv g.1 (AE2 a (by omega))]
   rw[S,AW rfl];have O:(o:Int)+(frB p (FH b)).length=((o+(frB p (FH b)).length:Nat):Int):=by omega
   have ⟨k,Z,k2,k3,k4⟩:=AYT t (p+1) (o+(frB p (FH b)).length) c f s g.2.2 (by rw[<-List.drop_drop,E];simp[jT]) Y L (by omega);refine⟨k+1,by simpa using Z,?_,?_,?_⟩
   .dsimp only;rw[Cy,jF,O,k2]
   .rw[Cy,jT,AH];omega
   .intro j G H;cases j with
    |zero=>omega|succ j=>
     rw[Cy,jT,AH]at H;have:=k4 j (by simpa using G) (by omega);omega
  .have I:(Pl (s.take c) o).2=false:=by
    rw[e,Ue];intro q b' y B;obtain⟨rfl,rfl⟩:=AKu y g.1 (B.trans (List.take_prefix _ _)) a;have:=B.length_le;rw[Aj]at this;omega
   rw[AT (by rw[I];simp)];refine⟨0,by simp,rfl,by simpa[jT] using J,λj G H=>?_⟩;cases j with
   |zero=>omega|succ j=>rw[Cy,jT,AH]at H;omega
theorem ADX{l:List Bq}(h:jOk p l){c:Nat}(a:c<=(jT p l).length) :
 ∃k,k<=l.length/\EI ((jT p l).take c)=jF 0 p (l.take k)/\(jT p (l.take k)).length<=c/\∀j,j<=l.length->(jT p (l.take j)).length<=c->j<=k:=by
 have ⟨k,e,g,q,y⟩:=AYT l p 0 c (c+1) (jT p l) h rfl (by omega) a (by omega)
 grind[EI,List.length_take,Nat.min_eq_left]
def ALM:∀{l:List Bq} {o p v:Int},(∀x∈l,GJ x=true)->p<=v+1->notes (aft v (jF o p l))=l.drop (v+1-p).toNat
 | [],o,p,v,_,_=>by simp[jF,aft,notes]|x::l,o,p,v,h,q=>by
  have c:=λe (g:p+1<=e+1)=>ALM (l:=l) (o:=o+(frB p (FH x)).length) (p:=p+1) (v:=e) (λy j=>h y (Af _ j)) g
  unfold jF aft;by_cases a:p<=v
  .rw[AW a,c v (by omega),show (v+1-p).toNat=(v+1-(p+1)).toNat+1 by omega,List.drop_succ_cons]
  .rw[AT a,AW (show p=v+1 by omega)];unfold notes;rw[nW (h x (BK ..)),AW rfl,c (v+1) (by omega),show (v+1+1-(p+1)).toNat=0 by omega,show (v+1-p).toNat=0 by omega];rfl
theorem AWO:∀{l:List Bq} {o p v:Int},(∀x∈l,GJ x=true)->p<=v+1->used v o (jF o p l)=o+(jT p l).length
 | [],o,p,v,_,_=>by simp[jF,used,jT]|x::l,o,p,v,h,g=>by
  have j:=λa (c:p+1<=a+1)=>AWO (l:=l) (o:=o+(frB p (FH x)).length) (p:=p+1) (v:=a) (λy e=>h y (Af _ e)) c
  unfold jF used jT;rw[AH]
  grind[nW,List.mem_cons_self]
def AWN:∀{l:List Bq} {o p t:Int},p<=t+1->WO t o (jF o p l)=o+(jT p (l.take (t+1-p).toNat)).length
 | [],o,p,t,_=>by simp[jF,WO,jT]|x::l,o,p,t,c=>by
  unfold jF WO;by_cases a:p<=t
  .rw[AW a,AWN (by omega),show (t+1-p).toNat=(t+1-(p+1)).toNat+1 by omega,Cy,jT,AH];dsimp only;omega
  .rw[AT a,show (t+1-p).toNat=0 by omega];simp[jT]
def AYz(q:Bq):KJ q=GJ q:=by
 unfold KJ GJ RW fld inB;simp only[Bool.and_assoc]
def Two.sw3(h:Two n k):Two k n:=by
 rcases h with ⟨rfl,rfl⟩|⟨rfl,rfl⟩
 .exact .inr ⟨rfl,rfl⟩
 .exact .inl ⟨rfl,rfl⟩
structure HQ(h:AE)(q:Int):Prop where
 hqB:DC h=true
 hqF:Bt h
 hqQ:inB q 0 1000000=true
def H4(h:AE)(q:Int):Bp:=⟨DF h q,((DF h q).length:Int)⟩
def HQ.rdF(a:HQ h q)(c:Ci s k=H4 h q):Hm s k=some (h,q,true):=AXw a.hqB a.hqF a.hqQ c
def HQ.AWa(a:HQ h q)(l:List Bq)(c:inB p 0 1000000=true):HQ (Dr l h).1 p:=
 ⟨G0.2 (lJ l (G0.1 a.hqB)).1,(ID l a.hqF).1,c⟩
theorem eU(h:AE)(q:Int):Ev (H4 h q)=true:=by
 grind[FI,H4,Dm]
def zj(a:Bp):Prop:=∀(s:Bj) (k:Int),Ci s k=a->∃r,Hm s k=some r/\r.2.2=false
theorem AWk(a:HQ h q){m:Nat}(c:m<(DF h q).length):zj ⟨(DF h q).take m,(m:Int)⟩:=by
 intro s k j;have ⟨r,y,e⟩:=AVz a.hqB a.hqQ c;have hT:=FI h q;have g:((DF h q).take m).length=m:=by rw[Aj];omega
 refine⟨r,rdI ?_,e⟩
 grind[LB,Jb,AB,FB,Dm,BG,BQ,CD,Int.toNat_natCast,Nat.min_self]
def UJ(hT:T.length<=20000):zj ⟨T,0⟩:=λs k a=>⟨_,AHg a hT,rfl⟩
def mid(R:List Bq)(b q p:Int):List Bq:=(R.take (p-b).toNat).drop (q-b).toNat
def Tn(R:List Bq)(b q:Int):mid R b q q=[]:=by
 unfold mid;rw[List.drop_eq_nil_iff,Aj];omega
theorem ALK(R L:List Bq)(h:q<=p)(a:p<=b+R.length):mid R b q p++(R++L).drop (p-b).toNat=R.drop (q-b).toNat++L:=by
 unfold mid;rw[Ei (by omega),<-BR];congr 1
 conv=>rhs;rw[<-Cb (p-b).toNat R]
 grind[List.drop_append,List.length_take,min]
def AL1(a:Bp)(H:AE)(q b:Int)(R:List Bq):Prop:=
 (a.Safe=a.Data.length/\zj a)\/(∃h p,HQ h p/\a=H4 h p/\p<=q/\(p=q->h=H))\/(∃p,q<=p/\p<=b+R.length/\a=⟨DF (Dr (mid R b q p) H).1 p,0⟩)
def AYp(a:Bp)(H:AE)(q b:Int)(R:List Bq):Prop:=
 zj a\/∃h p,HQ h p/\a=H4 h p/\(p<=q/\(p=q->h=H)\/q<=p/\p<=b+R.length/\h=(Dr (mid R b q p) H).1)
structure Leg(e:Az)(n k b q:Int)(R:List Bq)(H:AE):Prop where
 lgT:Two n k
 lgE:DB e=true
 lgF:CY e
 lgJ:jOk (b+1) (R++e.Laid)
 lgD:e.Aq.Log=⟨jT (b+1) (R++e.Laid),((jT (b+1) R).length:Int)⟩
 lgS:e.Seq=b+R.length+e.Laid.length
 lgB:0<=b/\b<=q/\q<=b+R.length
 lgH:HQ H q
 lgM:Ci e.Aq n=H4 H q
 lgX:e.Ax=(Dr (R.drop (q-b).toNat) H).1
 lgO:AL1 (Ci e.Aq k) H q b R
def AOk(hT:Two n k)(hB:b<=q/\q<=b+R.length)(hH:HQ H q)(hM:Ci s n=H4 H q)(hO:AYp (Ci s k) H q b R) :
 ∃O B q' H',Two O B/\Jy s=some O/\HQ H' q'/\Ci s O=H4 H' q'/\q<=q'/\q'<=b+R.length/\H'=(Dr (mid R b q q') H).1 /\
  (zj (Ci s B)/\B=k\/∃h p,HQ h p/\Ci s B=H4 h p/\p<=q'/\(p=q'->h=H')):=by
 have e:=hH.rdF hM;rcases hO with hO|⟨h,p,a,j,S⟩
 .have ⟨y,Z,L⟩:=hO s k rfl;exact⟨n,k,q,H,hT,(hT.nw3 e Z).1 L rfl,hH,hM,by omega,hB.2,by rw[Tn];rfl,.inl ⟨hO,rfl⟩⟩
 .have E:=a.rdF j;have tie:p=q->h=H:=by
   rcases S with c|c
   .exact c.2
   .rintro rfl;rw[c.2.2,Tn];rfl
  by_cases G:q<p
  .have hN:=(hT.nw3 e E).2.1 rfl rfl G;rcases S with c|⟨Q,X,Y⟩
   .omega
   .exact⟨k,n,p,h,hT.sw3,hN,a,j,Q,X,Y,.inr ⟨H,q,hH,hM,Q,λg=>by omega⟩⟩
  .rcases(hT.sw3.nw3 E e).2.2 rfl rfl (show p<=q by omega) with hN|hN
   .have J:p=q:=by
     by_cases I:p<q
     .have:=(hT.sw3.nw3 E e).2.1 rfl rfl I;rw[hN]at this;rcases hT with ⟨rfl,rfl⟩|⟨rfl,rfl⟩<;>cases this
     .omega
    subst J;obtain rfl:=tie rfl;exact⟨k,n,p,h,hT.sw3,hN,a,j,by omega,hB.2,by rw[Tn];rfl,.inr ⟨h,p,hH,hM,by omega,λ_=>rfl⟩⟩
   .exact⟨n,k,q,H,hT,hN,hH,hM,by omega,hB.2,by rw[Tn];rfl,.inr ⟨h,p,a,j,by omega,tie⟩⟩
theorem ma(h:Ev a=true)(p:Int):∃c:Nat,a.Safe<=c/\c<=a.Data.length/\KS a p=⟨a.Data.take c,(c:Int)⟩/\(p=0->(c:Int)=a.Safe)/\(p=20000->c=a.Data.length):=by
 grind[Dm,mT,KS,Int.toNat_of_nonneg]
theorem Nm(h:Ev a=true)(p:Int):Ev (KS a p)=true/\(KS a p).Safe=(KS a p).Data.length:=by
 have ⟨c,e,g,j,_⟩:=ma h p
 grind[Dm,List.length_take]
def AKs(s:Bj)(l:List Int)(k:Int):∃p,Ci (D2 s l) k=KS (Ci s k) p:=by
 unfold Ci D2;split
 .exact⟨_,rfl⟩
 .exact⟨_,rfl⟩
theorem AUI(h:AL1 a H q b R)(g:Ev a=true)(hH:HQ H q)(hQ:b+R.length<=1000000)(p:Int) :
 (KS a p).Safe=(KS a p).Data.length/\AYp (KS a p) H q b R:=by
 have Q:=B9.1 hH.hqQ;refine⟨(Nm g p).2,?_⟩;rcases h with ⟨I,J⟩|⟨h,e,j,rfl,y,B⟩|⟨e,y,B,rfl⟩
 .rw[N9 g I p];exact .inl J
 .rw[N9 g rfl p];exact .inr ⟨h,e,j,rfl,.inl ⟨y,B⟩⟩
 .have ⟨c,L,E,G,_⟩:=ma g p;have j:=hH.AWa (mid R b q e) (p:=e) (B9.2 (by omega));rw[G];by_cases O:c=(DF (Dr (mid R b q e) H).1 e).length
  .right
   grind[H4,List.take_length]
  .left;exact AWk j (by dsimp only at E;omega)
theorem AX2(h:GR s=true)(k:Int):Ev (Ci s k)=true:=by
 have ⟨_,a,c⟩:=Hf h
 grind[Ci]
theorem Leg.AaV(h:Leg e n k b q R H)(l:List Int) :
 ∃a k' q' H' m f,SR (D2 e.Aq l) a (H',q',true)/\m<=e.Laid.length/\(l.getD 0 0=0->m=0)/\(l.getD 0 0=20000->m=e.Laid.length)/\Qz (D2 e.Aq l) a (H',q',true)=(f.Ax,f.Seq,true) /\
  Q7 (D2 e.Aq l) a (H',q',true)=((jT (b+1) (R++e.Laid.take m)).length:Int)/\HT (D2 e.Aq l) a (H',q',true)=(f,true)/\Leg f a k' b q' (R++e.Laid.take m) H'/\f.Laid=[]/\f.Ax=(Dr (e.Laid.take m) e.Ax).1:=by
 have ⟨hE1,hE2,hE3,hE4,hE5⟩:=FU h.lgE;have ⟨aL,aE,aO⟩:=Hf hE2;have hS:=h.lgS;have hB:=h.lgB;have hD:=h.lgD;have ⟨c,c1,Y,c3,Z,c5⟩:=ma aL (l.getD 0 0);rw[hD]at c1 Y Z c5;dsimp only at c1 Y Z c5;have hL:(D2 e.Aq l).Log=⟨(jT (b+1) (R++e.Laid)).take c,(c:Int)⟩:=by show KS e.Aq.Log _=_;rw[c3,hD]
 have ⟨j,j1,j2,j3,j4⟩:=ADX h.lgJ Y;rw[AH]at j1;have hRj:R.length<=j:=j4 R.length (by simp) (by rw[Ce rfl];omega);have ⟨m,hm⟩:∃m,m=j-R.length:=⟨_,rfl⟩;have hml:m<=e.Laid.length:=by omega
 have E:(R++e.Laid).take j=R++e.Laid.take m:=by rw[List.take_append,BE hRj,hm]
 rw[E]at j2 j3;have y:(e.Laid.take m).length=m:=by rw[Aj];omega
 have hJ:=YN.1 h.lgJ;have hJm:jOk (b+1) (R++e.Laid.take m):=by
  have h1:=h.lgJ;rw[<-Cb j (R++e.Laid),E]at h1;exact(YN.1 h1).1
 have ⟨p1,Q⟩:=AKs e.Aq l n;rw[h.lgM,N9 (eU H q) rfl]at Q;have ⟨p2,hp2⟩:=AKs e.Aq l k;have ho:=AUI h.lgO (AX2 hE2 k) h.lgH (by omega) p2;rw[<-hp2]at ho;have ⟨a,k',q',H',t1,t2,t3,t4,t5,t6,t7,t8⟩:=AOk h.lgT ⟨hB.2.1,hB.2.2⟩ h.lgH Q ho.2;have hq':=B9.1 t3.hqQ;have hrd:=t3.rdF t4;have R1:SR (D2 e.Aq l) a (H',q',true):=by
  have ⟨n0,q0,R0⟩:=AHi (D2 e.Aq l);have G:a=n0:=Option.some.inj (t2.symm.trans R0.sn);subst G;have e2:(H',q',true)=q0:=Option.some.inj (hrd.symm.trans R0.sr);subst e2;exact R0
 have B:GR (D2 e.Aq l)=true:=by unfold GR D2;simp[(Nm aL _).1,(Nm aE _).1,(Nm aO _).1]
 have hcalm:So (D2 e.Aq l)=true:=by unfold So D2;simp[(Nm aL _).2,(Nm aE _).2,(Nm aO _).2]
 have O:¬a<0:=by rcases t1 with ⟨rfl,_⟩|⟨rfl,_⟩<;>omega
 have hno:notes (aft q' (EI (D2 e.Aq l).Log.Data))=(R++e.Laid.take m).drop (q'-b).toNat:=by
  rw[hL];dsimp only;rw[j2,ALM (xk hJm) (by omega),show q'+1-(b+1)=q'-b by omega]
 have hdl:((R++e.Laid.take m).drop (q'-b).toNat).length=R.length+m-(q'-b).toNat:=by rw[BI,AH,y]
 have g:Qz (D2 e.Aq l) a (H',q',true)=((Dr ((R++e.Laid.take m).drop (q'-b).toNat) H').1,b+R.length+m,true):=by
  unfold Qz;rw[AW ⟨B,O⟩];dsimp only;rw[hno,hdl,show q'+((R.length+m-(q'-b).toNat:Nat):Int)=b+R.length+m by omega]
 have X:Q7 (D2 e.Aq l) a (H',q',true)=((jT (b+1) (R++e.Laid.take m)).length:Int):=by
  unfold Q7;rw[AW ⟨B,O⟩,hL];dsimp only;rw[j2,AWO (xk hJm) (by omega)];omega
 have htr:M4 (Y6 (D2 e.Aq l).Log ((jT (b+1) (R++e.Laid.take m)).length:Int)).1=⟨jT (b+1) (R++e.Laid.take m),((jT (b+1) (R++e.Laid.take m)).length:Int)⟩:=by
  have hcl:((jT (b+1) (R++e.Laid)).take c).length=c:=by rw[Aj];omega
  have hA:=Dm.1 (Nm aL (l.getD 0 0)).1;have S:((jT (b+1) (R++e.Laid)).take c).take (jT (b+1) (R++e.Laid.take m)).length=jT (b+1) (R++e.Laid.take m):=by
   rw[List.take_take,Nat.min_eq_left j3]
   conv=>lhs;arg 2;rw[<-Cb j (R++e.Laid),E,xm]
   exact Ce rfl
  have ha:Ev (D2 e.Aq l).Log=true:=(Nm aL _).1;have h20:c<=20000:=by have:=(Dm.1 aL).1;rw[hD]at this;dsimp only at this;omega
  rw[hL]at ha ⊢;unfold Y6;rw[AW ⟨ha,B9.2 ⟨by omega,by dsimp only;omega⟩⟩];dsimp only;rw[Ag,S];unfold M4;rw[AW (Dm.2 ⟨by dsimp only;omega,by dsimp only;split<;>omega,by dsimp only;split<;>omega⟩)]
 have I:=AL5 (Zf h.lgF l) R1;have J:HT (D2 e.Aq l) a (H',q',true)=(⟨(Dr ((R++e.Laid.take m).drop (q'-b).toNat) H').1,⟨⟨jT (b+1) (R++e.Laid.take m),((jT (b+1) (R++e.Laid.take m)).length:Int)⟩,(D2 e.Aq l).Ec,(D2 e.Aq l).Odd⟩,b+R.length+m,[]⟩,true):=by
  unfold HT;rw[g,X,AW ⟨rfl,hcalm⟩,htr]
 rw[J]at I;have hsl:∀i,Ci ⟨⟨jT (b+1) (R++e.Laid.take m),((jT (b+1) (R++e.Laid.take m)).length:Int)⟩,(D2 e.Aq l).Ec,(D2 e.Aq l).Odd⟩ i=Ci (D2 e.Aq l) i:=λi=>rfl
 have hhq:=t3.AWa ((R++e.Laid.take m).drop (q'-b).toNat) t3.hqQ;refine⟨a,k',q',H',m,_,R1,hml,?_,?_,g,X,J,⟨t1,?_,I,?_,?_,?_,?_,t3,t4,rfl,?_⟩,rfl,?_⟩
 .intro h0;have G:=Z h0;rw[xm,AH]at j3;have h2:=ATh (YN.1 hJm).2;omega
 .grind[List.take_of_length_le,Nat.le_antisymm,Nat.le_sub_of_add_le,Nat.add_comm]
 .have L:Ev ⟨jT (b+1) (R++e.Laid.take m),((jT (b+1) (R++e.Laid.take m)).length:Int)⟩=true:=by
   have:=(Dm.1 aL).1;rw[hD]at this;dsimp only at this;exact Dm.2 ⟨by dsimp only;omega,by dsimp only;omega,by dsimp only;omega⟩
  have ⟨_,y1,y2⟩:=Hf B;unfold DB GR;simp only[hhq.hqB,L,y1,y2,CU,AM,NP,CN];rw[B9.2 (by omega)];rfl
 .rw[CX];exact hJm
 .dsimp only;rw[CX]
 .dsimp only;rw[AH,y,AM];omega
 .rw[AH,y];omega
 .rcases t8 with ⟨t8,rfl⟩|⟨h0,p0,u1,u2,u3,u4⟩
  .exact .inl ⟨ho.1,t8⟩
  .exact .inr (.inl ⟨h0,p0,u1,u2,u3,u4⟩)
 .have G:=MA (mid R b q q') ((R++e.Laid.take m).drop (q'-b).toNat) H;rw[ALK R _ t5 t6,MA]at G;rw[h.lgX,t7];exact(congrArg Prod.fst G).symm
def ADe(a:Bt h)(c:DC h=true):aF h h=true:=Option.some.inj ((T8 a a).symm.trans (AHq a c))
def Leg.AYg(h:Leg e n k b q R H):Leg (Lw e).1 n k b q (R++e.Laid) H/\(Lw e).1.Laid=[]/\Lw e=(⟨(Dr e.Laid e.Ax).1,⟨⟨jT (b+1) (R++e.Laid),((jT (b+1) (R++e.Laid)).length:Int)⟩,e.Aq.Ec,e.Aq.Odd⟩,e.Seq,[]⟩,(Dr e.Laid e.Ax).2):=by
 have ⟨hE1,hE2,hE3,hE4,hE5⟩:=FU h.lgE;have ⟨aL,aE,aO⟩:=Hf hE2;have hS:=h.lgS;have hB:=h.lgB;have hA:=(Dm.1 aL).1;rw[h.lgD]at hA;dsimp only at hA;have g:Lw e=(⟨(Dr e.Laid e.Ax).1,⟨⟨jT (b+1) (R++e.Laid),((jT (b+1) (R++e.Laid)).length:Int)⟩,e.Aq.Ec,e.Aq.Odd⟩,e.Seq,[]⟩,(Dr e.Laid e.Ax).2):=by
  unfold Lw M4;rw[AT (by rw[h.lgE];simp),AW aL,h.lgD]
 have j:=(tJ h.lgF).1;have a:=h.lgH.AWa (R.drop (q-b).toNat) h.lgH.hqQ;rw[<-h.lgX]at a;have a:=a.AWa e.Laid h.lgH.hqQ;rw[g]at j ⊢;refine⟨⟨h.lgT,?_,j,?_,?_,?_,?_,h.lgH,h.lgM,?_,?_⟩,rfl,rfl⟩
 .unfold DB GR;have c:Ev ⟨jT (b+1) (R++e.Laid),((jT (b+1) (R++e.Laid)).length:Int)⟩=true:=Dm.2 ⟨by dsimp only;omega,by dsimp only;omega,by dsimp only;omega⟩;simp only[a.hqB,c,aE,aO,CU,AM,NP,CN];rw[B9.2 (by omega)];rfl
 .rw[CX];exact h.lgJ
 .dsimp only;rw[CX]
 .dsimp only;rw[AH,AM];omega
 .rw[AH];omega
 .dsimp only;rw[h.lgX,Ei (by omega),MA]
 .rcases h.lgO with o|o|⟨p,y,E,B⟩
  .exact .inl o
  .exact .inr (.inl o)
  .refine .inr (.inr ⟨p,y,by rw[AH];omega,?_⟩);have:mid (R++e.Laid) b q p=mid R b q p:=by unfold mid;rw[List.take_append_of_le_length (by omega)]
   rw[this];exact B
def Leg.AcM(h:Leg e n k b q R H)(x:Bq):Leg (KC e x).1 n k b q R H:=by
 by_cases y:(KC e x).2=0
 .have ⟨B,X,J,L,g,E⟩:=Ug y;have ⟨Q,S⟩:=ATm y;have hS:=h.lgS;have hB:=h.lgB;have O:=FU B;have a:(KC e x).1.Aq.Ec=e.Aq.Ec/\(KC e x).1.Aq.Odd=e.Aq.Odd:=by unfold KC;split;exact⟨rfl,rfl⟩;split;exact⟨rfl,rfl⟩;split;exact⟨rfl,rfl⟩;split;exact⟨rfl,rfl⟩;exact⟨rfl,rfl⟩
  have c:∀i,Ci (KC e x).1.Aq i=Ci e.Aq i:=λi=>by unfold Ci;rw[a.1,a.2]
  have G:GJ x=true:=by rw[<-AYz];exact J
  have j:Pm (e.Seq+1) (FH x):=⟨by rw[E]at O;omega,by
   have Y:=AEZ x;have Z:=JQ.2 (yn G);omega⟩
  refine⟨h.lgT,B,ADq h.lgF x,?_,?_,?_,h.lgB,h.lgH,(c n).trans h.lgM,L.trans h.lgX,?_⟩
  .rw[g,<-BR];refine YN.2 ⟨h.lgJ,?_,G,trivial⟩;rw[AH,show b+1+((R.length+e.Laid.length:Nat):Int)=e.Seq+1 by omega];exact j
  .have I:(KC e x).1.Aq.Log=⟨(KC e x).1.Aq.Log.Data,(KC e x).1.Aq.Log.Safe⟩:=rfl;rw[I,Q,S,g,<-BR,xm (R++e.Laid),h.lgD,AH,show b+1+((R.length+e.Laid.length:Nat):Int)=e.Seq+1 by omega];simp[jT]
  .rw[g,E,AH,BZ];omega
  .rw[c k];exact h.lgO
 .rw[mW y];exact h
def Y0(g:CY e)(y:DB e=true)(B:Jy e.Aq=some n)(h:¬n<0)(p:Int)(E:inB p 0 3=true) :
 (e.Laid≠[]->Jz e p=some (e,false))/\(e.Laid=[] ->
 (p=0->Jz e p=some (JJ e (w64 (1-n)) ⟨[],0⟩,true)) /\
 (∀a,p=1->E1 (Ci e.Aq (w64 (1-n))) (DF e.Ax e.Seq)=(a,true)->Jz e p=some (JJ e (w64 (1-n)) a,true)) /\
 (p=2->Jz e p=some (JJ e (w64 (1-n)) (M4 (Ci e.Aq (w64 (1-n)))),true)) /\
 (∀q a,p=3->Hm e.Aq n=some q->NZ e.Aq.Log (WO q.2.1 0 (EI e.Aq.Log.Data))=(a,true)->Jz e p=some (⟨e.Ax,⟨a,e.Aq.Ec,e.Aq.Odd⟩,e.Seq,e.Laid⟩,true))):=by
 have ⟨q,H,J,_⟩:=FR e.Aq n;have I:=SB g (w64 (1-n));unfold Jz OU Mq;simp only[GL g,F3 g,GZ,AB,AV,B,y,Bl,BW,E,decide_eq_false h,IL,Nx,Iy g.EW,M1 (Av (FI e.Ax e.Seq) (by omega)),OD,H,Nv g.log,Ut,BG,BQ];refine⟨λc=>?_,λc=>⟨?_,?_,?_,?_⟩⟩
 .rw[decide_eq_true (by have:=JQ.2 c;omega),BQ]
 all_goals rw[c,show decide ((([]:List Bq).length:Int)>0)=false from rfl,BW]
 .rintro rfl;rw[<-c];rfl
 .rintro a rfl j;rw[j,<-c];rfl
 .rintro rfl;rw[<-c];rfl
 .rintro q' a rfl G j;cases G;rw[j,Qx,<-c];rfl
def Two.nn3(h:Two n k):¬n<0/\w64 (1-n)=k:=by rcases h with ⟨rfl,rfl⟩|⟨rfl,rfl⟩<;>exact⟨by omega,rfl⟩
theorem se(h:GR s=true)(c:Ev a=true)(k:Int):GR (Sj s k a)=true:=by
 grind[Hf,Sj,GR]
theorem Leg.AZw(h:Leg e n k b q R H)(c:Ev a=true)(g:AL1 a H q b R):Leg (JJ e k a) n k b q R H/\Ci (JJ e k a).Aq k=a:=by
 have ⟨p1,p2,p3⟩:=h.lgT.pu3 e.Aq a;have hE:=h.lgE;have ⟨_,hE2,_⟩:=FU hE;have j:=se hE2 c k;refine⟨⟨h.lgT,?_,Yb h.lgF (by have:=Dm.1 c;omega),h.lgJ,p3.trans h.lgD,h.lgS,h.lgB,h.lgH,p2.trans h.lgM,h.lgX,?_⟩,p1⟩
 .grind[DB,JJ]
 .show AL1 (Ci (Sj e.Aq k a) k) H q b R;rw[p1];exact g
def Leg.AOk(h:Leg e n k b q R H)(hO:AYp (Ci e.Aq k) H q b R)(g:(Ci e.Aq k).Safe=(Ci e.Aq k).Data.length) :
 ∃n k q' H',Leg e n k b q' R H'/\Jy e.Aq=some n/\q<=q':=by
 have hB:=h.lgB;have ⟨y,j,q',H',t1,t2,t3,t4,t5,t6,t7,t8⟩:=Lv.P.AOk h.lgT hB.2 h.lgH h.lgM hO;refine⟨y,j,q',H',⟨t1,h.lgE,h.lgF,h.lgJ,h.lgD,h.lgS,by omega,t3,t4,?_,?_⟩,t2,t5⟩
 .have a:=MA (mid R b q q') ((R++[]).drop (q'-b).toNat) H;rw[ALK R [] t5 t6,CX,CX]at a;rw[h.lgX,t7,a]
 .rcases t8 with ⟨t8,rfl⟩|⟨c,p0,B,E,G,I⟩
  .exact .inl ⟨g,t8⟩
  .exact .inr (.inl ⟨c,p0,B,E,G,I⟩)
def Leg.AYd(h:Leg e n k b q R H):∃n k q' H',Leg e n k b q' R H'/\Jy e.Aq=some n:=by
 rcases h.lgO with ⟨g,c⟩|⟨E,p,g,c,B,I⟩|⟨p,g,c,B⟩
 .have ⟨n,k,q',H',a,b,_⟩:=h.AOk (.inl c) g;exact⟨n,k,q',H',a,b⟩
 .have ⟨n,k,q',H',a,b,_⟩:=h.AOk (.inr ⟨E,p,g,c,.inl ⟨B,I⟩⟩) (by rw[c];rfl);exact⟨n,k,q',H',a,b⟩
 .have hT:=FI (Dr (mid R b q p) H).1 p;have ⟨y,G,j⟩:=UJ (T:=DF (Dr (mid R b q p) H).1 p) (by omega) e.Aq k B;exact⟨n,k,q,H,h,(h.lgT.nw3 (h.lgH.rdF h.lgM) G).1 j rfl⟩
def Va(e:Az):Prop:=∃n k b q R H,Leg e n k b q R H
def Leg.AZZ(h:Va e)(O:e.Laid=[]):∃e1 g e3 e4,Jz e 0=some (e1,true)/\Jz e1 1=some (g,true)/\Jz g 2=some (e3,true)/\Jz e3 3=some (e4,true) /\
 ∀f∈[e1,g,e3,e4],Va f/\f.Ax=e.Ax/\f.Seq=e.Seq/\f.Laid=[]:=by
 have ⟨n0,k0,b,q0,R,H0,h⟩:=h;have ⟨n,k,q,H,h,hN⟩:=h.AYd;have hT:=FI e.Ax e.Seq;have hB:=h.lgB;have hS:=h.lgS;have hE:=FU h.lgE;rw[O,AM]at hS;have hX:=h.lgX;have ⟨c1,c2⟩:=h.lgT.nn3;have ⟨l1,s1⟩:=h.AZw (a:=⟨[],0⟩) rfl (.inl ⟨rfl,UJ (by simp)⟩);have m1:=((Y0 h.lgF h.lgE hN c1 0 rfl).2 O).1 rfl;rw[c2]at m1;have N1:Jy (JJ e k ⟨[],0⟩).Aq=some n:=by
  have ⟨y,hy,L⟩:=UJ (T:=[]) (by simp) _ k s1;exact(h.lgT.nw3 (h.lgH.rdF l1.lgM) hy).1 L rfl
 have G:(Dr (mid R b q e.Seq) H).1=e.Ax:=by
  rw[hX];unfold mid;rw[BE (by omega)]
 have Y:Ev ⟨DF e.Ax e.Seq,0⟩=true:=Dm.2 ⟨by dsimp only;omega,by dsimp only;omega,by dsimp only;omega⟩;have po:AL1 ⟨DF e.Ax e.Seq,0⟩ H q b R:=.inr (.inr ⟨e.Seq,by omega,by omega,by rw[G]⟩);have ⟨E,s2⟩:=l1.AZw Y po;have m2:=((Y0 l1.lgF l1.lgE N1 c1 1 rfl).2 O).2.1 ⟨DF e.Ax e.Seq,0⟩ rfl (by
  rw[c2,s1];unfold E1 JJ;dsimp only;rw[AW ⟨rfl,by simp;omega⟩];rfl)
 rw[c2]at m2;have N2:Jy (JJ (JJ e k ⟨[],0⟩) k ⟨DF e.Ax e.Seq,0⟩).Aq=some n:=by
  have ⟨y,hy,L⟩:=UJ (T:=DF e.Ax e.Seq) (by omega) _ k s2;exact(h.lgT.nw3 (h.lgH.rdF E.lgM) hy).1 L rfl
 have m3:=((Y0 E.lgF E.lgE N2 c1 2 rfl).2 O).2.2.1 rfl;rw[c2,s2,show M4 ⟨DF e.Ax e.Seq,0⟩=H4 e.Ax e.Seq by unfold M4;rw[AW Y];rfl]at m3;have ⟨g,S⟩:∃x,x=JJ (JJ e k ⟨[],0⟩) k ⟨DF e.Ax e.Seq,0⟩:=⟨_,rfl⟩;have B:g.Ax=e.Ax/\g.Seq=e.Seq/\g.Laid=[]:=by rw[S];exact⟨rfl,rfl,O⟩
 rw[<-S]at m2 m3 E s2;have hHQ:HQ e.Ax e.Seq:=⟨hE.1,h.lgF.EW,B9.2 (by omega)⟩;have hl3:Leg (JJ g k ⟨[],0⟩) n k b q R H:=(E.AZw (a:=⟨[],0⟩) rfl (.inl ⟨rfl,UJ (by simp)⟩)).1;have ⟨p1,p2,p3⟩:=h.lgT.pu3 g.Aq (H4 e.Ax e.Seq);have Z:=se (FU E.lgE).2.1 (eU e.Ax e.Seq) k;have ⟨n',Q,q',H',t1,t2,t3,t4,t5,t6,t7,t8⟩:=Lv.P.AOk (s:=(JJ g k (H4 e.Ax e.Seq)).Aq) h.lgT hB.2 h.lgH (p2.trans E.lgM) (.inr ⟨e.Ax,e.Seq,hHQ,p1,.inr ⟨by omega,by omega,G.symm⟩⟩);have hqe:q'=e.Seq/\H'=e.Ax/\(zj (Ci (JJ g k (H4 e.Ax e.Seq)).Aq Q)->False):=by
  have hk:=hHQ.rdF (s:=(JJ g k (H4 e.Ax e.Seq)).Aq) p1;have hm:=h.lgH.rdF (s:=(JJ g k (H4 e.Ax e.Seq)).Aq) (p2.trans E.lgM);have nb:∀i x,Hm (JJ g k (H4 e.Ax e.Seq)).Aq i=some x->x.2.2=true->zj (Ci (JJ g k (H4 e.Ax e.Seq)).Aq i)->False:=by
   intro i x hx hx2 hb;have ⟨r,r1,r2⟩:=hb _ i rfl;rw[hx]at r1;cases r1;rw[hx2]at r2;cases r2
  have hd:=t3.rdF t4;have hnk:(n'=n/\Q=k)\/(n'=k/\Q=n):=by
   rcases h.lgT with ⟨rfl,rfl⟩|⟨rfl,rfl⟩<;>rcases t1 with ⟨rfl,rfl⟩|⟨rfl,rfl⟩<;>simp
  rcases hnk with ⟨rfl,rfl⟩|⟨rfl,rfl⟩
  .rw[hm]at hd;cases hd;refine⟨?_,?_,nb _ _ hk rfl⟩
   .by_cases J:q<e.Seq
    .have:=(h.lgT.nw3 hm hk).2.1 rfl rfl J;rw[t2]at this;rcases t1 with ⟨rfl,rfl⟩|⟨rfl,rfl⟩<;>cases this
    .omega
   .by_cases J:q<e.Seq
    .have:=(h.lgT.nw3 hm hk).2.1 rfl rfl J;rw[t2]at this;rcases t1 with ⟨rfl,rfl⟩|⟨rfl,rfl⟩<;>cases this
    .rw[<-G,show e.Seq=q by omega,Tn];rfl
  .rw[hk]at hd;cases hd;exact⟨rfl,rfl,nb _ _ hm rfl⟩
 obtain⟨rfl,rfl,X⟩:=hqe;have hE2:=FU E.lgE;have hO3:AL1 (Ci (JJ g k (H4 e.Ax e.Seq)).Aq Q) e.Ax e.Seq b R:=by
  rcases t8 with ⟨t8,_⟩|⟨h0,p0,u1,u2,u3,u4⟩
  .exact(X t8).elim
  .exact .inr (.inl ⟨h0,p0,u1,u2,u3,u4⟩)
 have hE3:DB (JJ g k (H4 e.Ax e.Seq))=true:=by
  have:=E.lgE;unfold DB JJ at *;dsimp only;rw[Z];rw[hE2.2.1]at this;exact this
 have I:Leg (JJ g k (H4 e.Ax e.Seq)) n' Q b e.Seq R e.Ax:=by
  refine⟨t1,hE3,Yb E.lgF (by have:=Dm.1 (eU e.Ax e.Seq);omega),E.lgJ,p3.trans E.lgD,E.lgS,by omega,t3,t4,?_,hO3⟩;rw[As (by omega)];exact B.1
 have ⟨d1,d2⟩:=t1.nn3;have hD:=I.lgD;rw[show (JJ g k (H4 e.Ax e.Seq)).Laid=[] from B.2.2,CX]at hD;have hJ:=I.lgJ;rw[show (JJ g k (H4 e.Ax e.Seq)).Laid=[] from B.2.2,CX]at hJ;have hA:=Dm.1 (Hf Z).1;have hfr:EI (JJ g k (H4 e.Ax e.Seq)).Aq.Log.Data=jF 0 (b+1) R:=by
  rw[hD];have ⟨j,j1,j2,j3,j4⟩:=ADX hJ (c:=(jT (b+1) R).length) (Ab _);have:=j4 R.length (Ab _) (by rw[Ch];exact Ab _);rw[Ch,BE this]at j2;exact j2
 have m4:=((Y0 I.lgF I.lgE t2 d1 3 rfl).2 B.2.2).2.2.2 _ ⟨[],0⟩ rfl (t3.rdF t4) (by
  rw[hfr];dsimp only;rw[AWN (by omega),BE (by omega),hD];unfold NZ;have hlA:=(Hf (FU I.lgE).2.1).1;rw[hD]at hlA;rw[AW ⟨hlA,B9.2 ⟨by omega,by dsimp only;omega⟩,rfl⟩];dsimp only;rw[show ((0:Int)+((jT (b+1) R).length:Int)).toNat=(jT (b+1) R).length by omega,Cq,show ((jT (b+1) R).length:Int)-(0+((jT (b+1) R).length:Int))=0 by omega])
 refine⟨_,_,_,_,m1,m2,m3,m4,?_⟩;intro f hf;simp only[Ae,H8,or_false]at hf;rcases hf with rfl|rfl|rfl|rfl
 .exact⟨⟨_,_,_,_,_,_,l1⟩,rfl,rfl,O⟩
 .exact⟨⟨_,_,_,_,_,_,E⟩,B⟩
 .exact⟨⟨_,_,_,_,_,_,I⟩,B⟩
 .refine⟨⟨n',Q,e.Seq,e.Seq,[],e.Ax,t1,?_,⟨I.lgF.EW,by simp,I.lgF.even,I.lgF.odd,I.lgF.laid⟩,?_,?_,?_,by simp;omega,t3,t4,?_,?_⟩,B⟩
  .have hE4:=I.lgE;have ⟨y1,y2,y3⟩:=Hf (FU hE4).2.1;unfold DB GR at *;dsimp only at *;rw[y2,y3];rw[y1,y2,y3]at hE4;exact hE4
  .rw[show (JJ g k (H4 e.Ax e.Seq)).Laid=[] from B.2.2];trivial
  .rw[show (JJ g k (H4 e.Ax e.Seq)).Laid=[] from B.2.2];rfl
  .show g.Seq=_;rw[show (JJ g k (H4 e.Ax e.Seq)).Laid=[] from B.2.2,B.2.1];simp
  .rw[show (([]:List Bq).drop (e.Seq-e.Seq).toNat)=[] by simp];exact B.1
  .rcases t8 with ⟨t8,_⟩|⟨h0,p0,u1,u2,u3,u4⟩
   .exact(X t8).elim
   .exact .inr (.inl ⟨h0,p0,u1,u2,u3,u4⟩)
def Va.AaW(h:Va e):CY e:=by have ⟨_,_,_,_,_,_,h⟩:=h;exact h.lgF
def Va.okE(h:Va e):DB e=true:=by have ⟨_,_,_,_,_,_,h⟩:=h;exact h.lgE
theorem Va.ATw(h:Va e)(p:Int):∃m,Xg e p=some m/\Va m.1/\m.1.Ax=e.Ax/\m.1.Seq=e.Seq/\m.1.Laid=e.Laid:=by
 have B:=h.AaW;unfold Xg;rw[GL B,AB];have ⟨n,Q⟩:=QE 5 (by omega);rw[Q];have go:∀(i j:Int) (m:Nat) (e c:Az),j=i+1->0<=i->i<4->i<p->Jz e i=some (c,true)->A9 (Ip p) (m+1) (i,e)=A9 (Ip p) m (j,c):=by
  grind[DW,A9,Ip,Mv,AB,BX,BG,BQ,A7]
 have stop:∀(m:Nat) (i:Int) (e:Az),(i=4\/p<=i)->A9 (Ip p) (m+1) (i,e)=some (e,true):=by
  intro m i e h;rw[DW];unfold Ip Xh;dsimp only;rw[Mv,AB,BX,AT (by split<;>omega),AV]
 by_cases O:p<=0
 .rw[stop _ _ _ (.inr O)];exact⟨_,rfl,h,rfl,rfl,rfl⟩
 by_cases a:e.Laid=[]
 .have ⟨c,H,I,J,E,G,a3,a4,y⟩:=Leg.AZZ h a;have Y:=y c (by simp);have g:=y H (by simp);have q:=y I (by simp);have f4:=y J (by simp);rw[go 0 1 _ _ _ rfl (by omega) (by omega) (by omega) E];by_cases Z:p<=1
  .grind
  rw[go 1 2 _ _ _ rfl (by omega) (by omega) (by omega) G];by_cases h2:p<=2
  .rw[stop _ _ _ (.inr (by omega))];exact⟨_,rfl,g.1,g.2.1,g.2.2.1,g.2.2.2.trans a.symm⟩
  rw[go 2 3 _ _ _ rfl (by omega) (by omega) (by omega) a3];by_cases h3:p<=3
  .rw[stop _ _ _ (.inr (by omega))];exact⟨_,rfl,q.1,q.2.1,q.2.2.1,q.2.2.2.trans a.symm⟩
  rw[go 3 4 _ _ _ rfl (by omega) (by omega) (by omega) a4,stop _ _ _ (.inl rfl)];exact⟨_,rfl,f4.1,f4.2.1,f4.2.2.1,f4.2.2.2.trans a.symm⟩
 .have ⟨n1,k1,X,q1,R1,H1,hL⟩:=h;have ⟨n0,k0,q0,H0,hG,hN⟩:=hL.AYd;have S:=(Y0 B hG.lgE hN hG.lgT.nn3.1 0 rfl).1 a;rw[DW];generalize A9 (Ip p) (n+1+4)=L;unfold Ip;dsimp only;rw[Mv,AB,BX,AW (by split<;>omega),S,AB,BG,BW];exact⟨_,rfl,⟨_,_,_,_,_,_,hL⟩,rfl,rfl,rfl⟩
theorem ADQ(h:Va w.Ad){l:List Int}{q:AE×Int×Bool}(R:SR (D2 w.Ad.Aq l) n q) :
 ∃m f,m<=w.Ad.Laid.length/\Va f/\f.Laid=[]/\f.Ax=(Dr (w.Ad.Laid.take m) w.Ad.Ax).1/\f.Seq=w.Ad.Seq-w.Ad.Laid.length+m /\
  rj w (HT (D2 w.Ad.Aq l) n q)=(⟨f,w.Di++w.Ad.Laid.take m,w.Cc++(Dr (w.Ad.Laid.take m) w.Ad.Ax).2,w64 (w.JL+1)⟩,0)/\(l.getD 0 0=0->m=0)/\(l.getD 0 0=20000->m=w.Ad.Laid.length)/\svF w (HT (D2 w.Ad.Aq l) n q)=m:=by
 have ⟨X,S,L,q1,R1,H1,hL⟩:=h;have ⟨y,Q,q',H',m,f,e,B,a3,a4,I,J,E,g,j,a⟩:=hL.AaV l;have G:y=n:=Option.some.inj (e.sn.symm.trans R.sn);subst G;have H:(H',q',true)=q:=Option.some.inj (e.sr.symm.trans R.sr);subst H;have hE:=FU hL.lgE;have Y:=hL.lgS;have s1:=g.lgS;have O:=hL.lgB;rw[j,AH,Aj,AM]at s1;have c:svF w (HT (D2 w.Ad.Aq l) y (H',q',true))=m:=by
  unfold svF;rw[E,AW ⟨hL.lgE,rfl⟩]
  grind[A7]
 refine⟨m,f,B,⟨_,_,_,_,_,_,g⟩,j,a,by omega,?_,a3,a4,c⟩
 grind[rj,B9,Int.toNat_natCast]
theorem AXN{a:DR}{r:BV×Int}(H:Hap w a r)(h:Va w.Ad):Va r.1.Ad:=by
 by_cases e:inB a.Kind 1 4=true
 case neg=>rw[H.hpK (by simpa using e)];exact h
 have c:=h.okE;rw[B9]at e;by_cases g:a.Kind=1
 .rw[H.hpL c g];have ⟨_,_,_,_,_,_,h⟩:=h;exact⟨_,_,_,_,_,_,h.AcM a.Req⟩
 by_cases j:a.Kind=2
 .rw[H.hpS c j];have ⟨_,_,_,_,_,_,h⟩:=h;exact⟨_,_,_,_,_,_,h.AYg.1⟩
 by_cases y:a.Kind=3
 .have ⟨m,m1,m2⟩:=H.hpM c y;have ⟨E,G,I,_⟩:=h.ATw a.N_
  grind
 have ⟨n,q,R,B⟩:=H.hpF c (by omega)
 grind[ADQ]
def AYo.Acb(h:AYo r e):Va e:=by
 have hB:=h.nwB;refine⟨0,1,0,0,[],e.Ax,.inl ⟨rfl,rfl⟩,h.nwO,h.nwF,?_,?_,?_,by simp,⟨hB,h.nwF.EW,rfl⟩,h.nwV,rfl,.inl ?_⟩
 .rw[h.nwL];trivial
 .rw[h.nwL,h.nwG];rfl
 .rw[h.nwL,h.nwQ];rfl
 .show e.Aq.Odd.Safe=(e.Aq.Odd.Data.length:Int)/\zj e.Aq.Odd;rw[h.nwD];exact⟨rfl,UJ (by simp)⟩
structure WSm(i:Nat)(w:BV):Prop where
 wsF:G2 w
 wsL:w.Ad.Laid.length<=8
 wsD:w.Di.length<=8*i
 wsR:w.Cc.length<=8*i
def WSm.AaX(h:WSm i w)(hi:i<=1000)(a:DR):∃r,TO w a=some r/\WSm (i+1) r.1/\Hap w a r:=by
 have y:=h.wsL;have B:=h.wsD;have E:=h.wsR;have ⟨r,g,e,H⟩:=tl (w:=w) ⟨h.wsF,by omega,by omega⟩ a;have ⟨c,j,q⟩:=zc h.wsF H h.wsL;exact⟨r,g,⟨e,c,by omega,by omega⟩,H⟩
def dJ(c:r.AX.length<=1048576)(i:Nat):WSm i (D4 r).1:=by
 have a:(D4 r).1.Ad.Laid=[]/\(D4 r).1.Di=[]/\(D4 r).1.Cc=[]:=by
  unfold D4 Fl;split<;>(try split)<;>exact⟨rfl,rfl,rfl⟩
 exact⟨ZB c,by rw[a.1];simp,by rw[a.2.1];simp,by rw[a.2.2];simp⟩
theorem AV8{n:Int}{L:List DR×Int×BT×BV->AA (List DR×BT)}{l:List DR}(e:EN c)(q:WSm i w)(hi:i<=1000)(j:l.length=i)
 (B:∀l' g w',EN g->WSm (i+1) w'->l'.length=i+1->∃x,L (l',((i+1:Nat):Int),g,w')=some x/\EN x.2/\x.1.length<=1001) :
 ∃x,OX n L (l,(i:Int),c,w)=some x/\EN x.2/\x.1.length<=1001:=by
 have h:=q.wsF.MC.EW;have J7:∀c a,EN c->∃x,Xn L l (i:Int) w (c,a)=some x/\EN x.2/\x.1.length<=1001:=by
  intro c a e;unfold Xn;dsimp only;rw[CD (by simp only[AI,AM,j];unfold lim;omega),List.getLast?_concat,AB];have ⟨r,E,G,_⟩:=q.AaX hi ⟨a.Kind,a.Req,a.N_,a.Nb⟩;rw[E,AB,show w64 ((i:Int)+1)=((i+1:Nat):Int) by rw[A7];omega];exact B _ _ _ e G (by simp[j])
 have J6:∀c a,EN c->∃x,OW L l (i:Int) w (c,a)=some x/\EN x.2/\x.1.length<=1001:=by
  intro c a e;unfold OW;dsimp only;have ⟨o,eo,co⟩:=oK e 40;have ⟨k,ek,_,_,_,ck⟩:=Ey co 7;rw[eo,AB,ek,AB,Bu,AV,AV];split
  .exact J7 _ _ ck
  .exact J7 _ _ co
 have J8:∀(x:Bq×BT) (y:Int×BT) b,EN y.2->∃z,Xo L l (i:Int) w x y b=some z/\EN z.2/\z.1.length<=1001:=by
  intro x y b e;unfold Xo;have ⟨z,ez,cz⟩:=AbE e h;rw[ez,AB,Bu,AV,AV];split
  .exact J6 _ _ cz
  .exact J6 _ _ e
 have J5:∀(x:Bq×BT) (y:Int×BT) b,EN y.2->∃z,TR L l (i:Int) w x y b=some z/\EN z.2/\z.1.length<=1001:=by
  intro x y b e;unfold TR;have ⟨k,ek,_,_,_,ck⟩:=Ey e 6;have ⟨z,ez,cz⟩:=AZ4 e;rw[ek,AB,ez,AB,Bu,Bu,Bu,Bu,AV,AV,AV,AV,AV];split
  .exact J6 _ _ e
  split
  .exact J6 _ _ ck
  split
  .exact J6 _ _ cz
  split
  .exact J8 _ _ _ e
  .exact J8 _ _ _ e
 unfold OX Xp;dsimp only;have ⟨x,ex,cx⟩:=Acv e h;have ⟨y,ey,_,_,_,cy⟩:=Ey cx 10;rw[ex,AB,ey,AB,Bu,Bu,Bu,AV,AV,AV,AV];split
 .split
  .exact J5 _ _ _ cy
  split
  .exact J5 _ _ _ cy
  .exact J5 _ _ _ cy
 grind
theorem AV7{n:Int}(y:n<=1000):∀(k i:Nat) (l:List DR) (c:BT) (w:BV),1001<k+i->i<=1001->EN c->WSm i w->l.length=i->∃x,A9 (OX n) k (l,(i:Int),c,w)=some x/\EN x.2/\x.1.length<=1001
 |0,i,l,c,w,h,g,_,_,_=>absurd h (by omega)|k+1,i,l,c,w,h,g,j,B,q=>by
  rw[DW];by_cases hi:i<=1000
  .exact AV8 j B hi q λl' e w' a b d=>AV7 y k (i+1) l' e w' (by omega) (by omega) a b d
  .unfold OX Xp;dsimp only;rw[decide_eq_false (by omega),BW,AV]
   grind
def AbD(h:EN c)(q:WSm 0 w)(j:n<=1000):∃x,AKK c w n=some x/\EN x.2/\x.1.length<=1001:=by
 have e:AKK c w n=OX n (A9 (OX n) big) ([],((0:Nat):Int),c,w):=rfl;rw[e];exact AV8 h q (by omega) rfl λl' g w' a b d=>AV7 j big 1 l' g w' (by have:=Kh;omega) (by omega) a b d
def AEz{s:List UInt8}(q:s.length<=1048576):∃x,AKL s=some x/\x.1.AX.length<=5/\x.2.length<=1001:=by
 have hlim:=Acx;unfold AKL;have ⟨c,ec,e⟩:=Acw q;have ⟨r,er,Y,Z,cr⟩:=AV9 e;have ⟨n,en,I⟩:=AbF q (a:=6) (b:=24) (by omega) (by omega);have ⟨b,eb,Q,G,H,cb⟩:=Ey cr n;have ⟨l,el,cl,j⟩:=AbD cb (dJ (r:=r.1) (by omega) 0) (n:=b.1) (by rcases Int.lt_or_le 0 n with h|h;exact Int.le_trans (Int.le_of_lt (H h)) I;rw[G h];omega);have ⟨o,eo,co⟩:=oK cl 30;have E:∀v c,EN c->v.length<=1001->∃x,Xq r (v,c)=some x/\x.1.AX.length<=5/\x.2.length<=1001:=by
  intro v c e B;unfold Xq kq;dsimp only;have ⟨o,eo,co⟩:=oK e 20;have ⟨z,ez,lz,_⟩:=AH2 co;rw[eo,AB,ez,AB,Bu,AV,AV];split
  .exact⟨_,rfl,lz,B⟩
  .exact⟨_,rfl,by dsimp only;omega,B⟩
 have lp:∀(k:Nat) (v:List DR),0<k->61<k+v.length->v.length<=1001->∃x,A9 (kr r o) k v=some x/\x.1.AX.length<=5/\x.2.length<=1001:=by
  intro k
  induction k with
  |zero=>exact λv g=>absurd g (by omega)|succ k L=>
   intro v g S X;rw[DW];unfold kr;rw[BX];split
   .rename_i h;rw[CD (by simp only[AI,AM];omega)];exact L _ (by omega) (by rw[AH];simp only[AI,AM];omega) (by rw[AH];simp only[AI,AM];omega)
   .rename_i h;unfold ACz;have ⟨y,ey,y1,_,O,cy⟩:=Ey co 2;have:=O (by omega);have J:w64 (60+y.1)=60+y.1:=A7 (by omega) (by omega);rw[AV,ey,AB,J,CD (by omega),AV];exact E _ _ cy (by rw[Aj];simp;omega)
 rw[ec,AB,er,AB,V2 (by omega),AB,en,AB,eb,AB,el,AB,eo,AB,Bu,AV];split
 .exact lp _ _ (by have:=Kh;omega) (by have:=Kh;omega) j
 .exact E _ _ co j
structure WSt(r:AY)(w:BV):Prop where
 stL:Va w.Ad
 stH:Dr w.Di (DV r).1=(w.Ad.Ax,w.Cc)
 stQ:w.Ad.Seq=w.Di.length+w.Ad.Laid.length
def AZN{a:DR}{x:BV×Int}(H:Hap w a x)(h:WSt r w):WSt r x.1/\∃D P,x.1.Di=w.Di++D/\x.1.Cc=w.Cc++P:=by
 have hL:=AXN H h.stL;have hH:=h.stH;have hQ:=h.stQ;have same:x.1=w->WSt r x.1/\∃D P,x.1.Di=w.Di++D/\x.1.Cc=w.Cc++P:=by
  intro e;rw[e];exact⟨h,[],[],by simp,by simp⟩
 by_cases y:inB a.Kind 1 4=true
 case neg=>exact same (by rw[H.hpK (by simpa using y)])
 have g:=h.stL.okE;rw[B9]at y;by_cases O:a.Kind=1
 .rw[H.hpL g O]at hL ⊢;refine⟨⟨hL,?_,?_⟩,[],[],by simp,by simp⟩
  .by_cases c:(KC w.Ad a.Req).2=0
   .dsimp only;rw[(Ug c).2.2.2.1];exact hH
   .dsimp only;rw[mW c];exact hH
  .by_cases c:(KC w.Ad a.Req).2=0
   .have ⟨_,_,_,_,I,J⟩:=Ug c;dsimp only;rw[I,J,AH,BZ];omega
   .dsimp only;rw[mW c];exact hQ
 by_cases Q:a.Kind=2
 .rw[H.hpS g Q]at hL ⊢;have ⟨n,k,b,q,R,H0,hG⟩:=h.stL;have ⟨_,_,j⟩:=hG.AYg;refine⟨⟨hL,?_,?_⟩,_,_,rfl,rfl⟩
  .dsimp only;rw[MA,hH,j]
  .dsimp only;rw[j,AH,AM];dsimp only;omega
 by_cases S:a.Kind=3
 .have ⟨m,m1,m2⟩:=H.hpM g S;have ⟨m',X,_,Y,Z,n5⟩:=h.stL.ATw a.N_;rw[X]at m1;cases m1;rw[m2]at hL ⊢;exact⟨⟨hL,by dsimp only;rw[Y];exact hH,by dsimp only;rw[Z,n5];exact hQ⟩,[],[],by simp,by simp⟩
 have ⟨n,q,R,L⟩:=H.hpF g (by omega);have ⟨m,f,f0,_,B,E,f4,G,_⟩:=ADQ h.stL R;rw[L,G]at hL ⊢;refine⟨⟨hL,?_,?_⟩,_,_,rfl,rfl⟩
 .dsimp only;rw[MA,hH,E]
 .dsimp only;rw[B,f4,AH,Aj,AM];omega
def s8:∀l:List CA,EJ pG l l=true| []=>rfl|r::l=>by unfold EJ;rw[s7,s8 l];rfl
def WSt.AV4(j:r.AX.length<=1048576)(h:WSt r w)(a:Dp r=true):bC w=true:=by
 have hE:=FU h.stL.okE;have e:=h.stL.AaW;have ⟨q,g⟩:=cC a;have hR:w.Ad.Ax.AQ=r:=by
  have:=(lJ w.Di g).2;rw[h.stH]at this;refine this.trans ?_;unfold DV;rw[AW a]
 have c:w64 ((w.Di.length:Int)+(w.Ad.Laid.length:Int))=w.Ad.Seq:=by rw[h.stQ];exact A7 (by have:=h.stQ;omega) (by have:=h.stQ;omega)
 unfold bC;rw[hR,h.stH,c,ADe e.EW hE.1,s8,h.stL.okE];simp
def hpF(w:BV)(a:DR):BV×Int:=(TO w a).getD (w,0)
def plF:BV->List DR->BV×List Int|w,[]=>(w,[])|w,a::l=>((plF (hpF w a).1 l).1,(hpF w a).2::(plF (hpF w a).1 l).2)
def AGw(hi:i<=1000)(h:WSm i w)(j:WSt r w)(a:DR):TO w a=some (hpF w a)/\rZ w a=some (hpF w a)/\WSm (i+1) (hpF w a).1/\WSt r (hpF w a).1 /\
 ∃D P,(hpF w a).1.Di=w.Di++D/\(hpF w a).1.Cc=w.Cc++P:=by
 have ⟨x,c,q,H⟩:=h.AaX hi a;have G:=h.wsL;have I:=h.wsD;have J:=h.wsR;have ⟨L,E,g,_⟩:=RE (w:=w) ⟨h.wsF,by omega,by omega⟩ a;have e:hpF w a=x:=by unfold hpF;rw[c];rfl
 rw[Option.some.inj (E.symm.trans c)]at g;rw[e];have ⟨y,B⟩:=AZN H j;exact⟨c,g,q,y,B⟩
def ALS:∀(l:List DR) (w:BV),(plF w l).2.length=l.length| [],_=>rfl|a::l,w=>by simp[plF,ALS l]
def AEG{r:AY}{l:List DR}(q:l.length<=60):∀(n i:Nat) (v:List Int) (w:BV),l.length<n+i->i<=l.length->v.length=i->WSm i w->WSt r w->A9 (OV l) n (v,(i:Int),w)=some ((plF w (l.drop i)).1,v++(plF w (l.drop i)).2,true)
 |0,i,v,w,h,j,_,_,_=>absurd h (by omega)|n+1,i,v,w,h,j,y,B,hL=>by
  have hlim:=Acx;have E:=λJ w' a b c d e=>AEG (r:=r) q n (i+1) J w' a b c d e
  rw[DW];generalize A9 (OV l) n=L at *;unfold OV kh;dsimp only;rcases Aa i l.length with h|h
  .have ⟨G,_,H,I,_⟩:=AGw (by omega) B hL l[i];rw[CF h,BQ,BM h,AB,G,AB,AB,Co,Y7,CD (by simp only[AI,AM];omega),Bv h];rw[E _ _ (by omega) (by omega) (by simp[y]) H I,CM h];simp[plF]
  .have g:decide ((i:Int)<(l.length:Int))=false:=by rw[decide_eq_false_iff_not];omega
   rw[g,BW,AV,As h];simp[plF]
def ym{l:List CA}(c:l.length<2 ^ 62)(hi:∀x∈l,x.Ids.length<=1048576):AKJ l l=some true:=by
 unfold AKJ;rw[Bu,AT (by simp)];refine tz (n:=l.length) (by omega) ?_ ?_
 .intro L i h;have a:=hi _ (Ak h);unfold km;rw[dec_lt,decide_eq_true h,BQ,BM h,AB,AB,T9 a,AB,s7,Bv h];simp[Bu]
 .intro L;unfold km ACx;rw[dec_lt,decide_eq_false (by omega),BW,AV]
def s9{l:List Bq}(a:l.length<2 ^ 62):AB1 l l=some true:=by
 unfold AB1;rw[Bu,AT (by simp)];refine tz (n:=l.length) (by omega) ?_ ?_
 .intro L i hi;unfold iw;rw[dec_lt,decide_eq_true hi,BQ,BM hi,AB,AB,Bv hi];simp[Bu]
 .intro L;unfold iw AB2;rw[dec_lt,decide_eq_false (by omega),BW,AV]
def oF{r:AY}(B:r.AX.length<=1048576)(G:Dp r=true){l:List DR}(hl:l.length<=60){w0:BV}{x y:BV×List Int×Bool}(Z:x.1=(plF w0 l).1)(j:WSt r x.1)(g:WSm 60 x.1)(hy:y.2.1=(plF w0 l).2){q:AY×List DR}(X:q.2=l) :
 ∀(n i:Nat) (v:BV),l.length<n+i->i<=l.length->WSm i v->WSt r v->(plF w0 l).1=(plF v (l.drop i)).1->(plF w0 l).2.drop i=(plF v (l.drop i)).2->A9 (I7 q x y) n ((v.Di.length:Int),(i:Int),v)=some true
 |0,i,v,h,h2,_,_,_,_=>absurd h (by omega)|n+1,i,v,h,h2,E,Y,J,O=>by
  have ih:=λv' a b c d e f=>oF B G hl Z j g hy X n (i+1) v' a b c d e f
  rw[DW];generalize A9 (I7 q x y) n=L at *;unfold I7 GD PH K9;dsimp only;rw[X];rcases Aa i l.length with h|h
  .have ⟨r1,r2,r3,r4,D,P,hD,hP⟩:=AGw (by omega) E Y l[i];have I:=r4.AV4 B G;have S:=ALS l w0;have hc:at? y.2.1 (i:Int)=some (hpF v l[i]).2:=by
    rw[hy,BM (by omega)];congr 1;have:=CM (l:=(plF w0 l).2) (i:=i) (by omega);rw[O,CM h,plF]at this;exact(List.cons.inj this).1.symm
   have hR:v.Cc.length=v.Di.length:=by
    have Q:=(ID v.Di (Ia B)).2.1;rw[Y.stH]at Q;exact Q
   have d1:=E.wsD;have d2:=E.wsR;have t1:List.take (Int.toNat (v.Di.length:Int)-0) (List.drop 0 (hpF v l[i]).1.Di)=v.Di:=by rw[hD];simp
   have t2:List.take (Int.toNat (v.Di.length:Int)-0) (List.drop 0 v.Di)=v.Di:=by simp
   have t3:List.take (Int.toNat (v.Di.length:Int)-0) (List.drop 0 (hpF v l[i]).1.Cc)=v.Cc:=by rw[hP];simp[<-hR]
   have t4:List.take (Int.toNat (v.Di.length:Int)-0) (List.drop 0 v.Cc)=v.Cc:=by simp[<-hR]
   have l1:v.Di.length<=(hpF v l[i]).1.Di.length:=by rw[hD,AH];omega
   have l2:v.Di.length<=(hpF v l[i]).1.Cc.length:=by rw[hP,AH];omega
   rw[CF h,BQ,BM h,AB,AB,r2,AB,hc,AB,AB,bne_self_eq_false,BW,AHx r3.wsF,I,AB,BG,BQ,decide_eq_false (by omega),BW,CD (by omega),CD (by omega),t1,t2,s9 (by omega),AB,BG,BQ,
    CD (by omega),CD (by omega),t3,t4,ym (by omega) E.wsF.ids,AB,AV,BG,BQ,Bv h]
   refine ih _ (by omega) (by omega) r3 r4 ?_ ?_
   .rw[J,CM h,plF]
   .have:=CM (l:=(plF w0 l).2) (i:=i) (by omega);rw[O,CM h,plF]at this;exact(List.cons.inj this).2.symm
  .have H:decide ((i:Int)<(l.length:Int))=false:=by rw[decide_eq_false_iff_not];omega
   have ev:v=x.1:=by rw[Z,J,As h];rfl
   have hm:=g.wsD;rw[H,BW,AV,AG2 g.wsF,j.AV4 B G,AB,BQ,ev,s9 (by omega),AB,AV]
def AUO{r:AY}:∀(l:List DR) (i:Nat) (w:BV),l.length+i<=1000->WSm i w->WSt r w->WSm (l.length+i) (plF w l).1/\WSt r (plF w l).1
 | [],i,w,_,h,c=>by simpa[plF] using ⟨h,c⟩|a::l,i,w,e,h,c=>by
  simp only[AI]at e ⊢;have ⟨_,_,g,j,_⟩:=AGw (by omega) h c a;have:=AUO l (i+1) _ (by omega) g j;rw[show l.length+1+i=l.length+(i+1) by omega];exact this
def zd{s:List UInt8}(_:okL okT s):K7 s=some true:=by
 unfold K7;rw[ATl,AB,BX];split
 .rfl
 have ⟨p,ep,p1,p2⟩:=AEz (s:=s) (by omega);have B:p.1.AX.length<=1048576:=by omega
 have ⟨x,Q,S,xf,xl⟩:=zf B (l:=p.2) (by omega);rw[ep,AB,S,AB,Q,AB,show (!x.2.2==x.2.2)=false by cases x.2.2<;>rfl,BW,pE (by omega),show EJ (·==·) x.2.1 x.2.1=true from Ox.2 rfl,AB,AV];unfold K8;rw[Bl,BW,BG];have c:=Q;unfold ACv Xl at c;simp only[V2 B,AB,BG,AV]at c;by_cases E:(D4 p.1).2=true
 case neg=>
  rw[DG]at E;rw[E,BW,BQ]at c;cases c;rfl
 rw[E,BQ]at c;by_cases h:(p.2.length:Int)>60
 .rw[decide_eq_true h,BQ]at c;cases c;rfl
 rw[decide_eq_false h,BW]at c;have G:Dp p.1=true:=by
  cases G:Dp p.1 with
  |true=>rfl|false=>unfold D4 Fl DV at E;simp[G]at E
 have ⟨e,N⟩:=Acr B G;have O:D4 p.1=(⟨e,[],[],0⟩,true):=by unfold D4;rw[N.nwN];rfl
 have g:=dJ B 0;have j:WSt p.1 (D4 p.1).1:=by
  rw[O];exact⟨N.Acb,by show Dr [] _=(e.Ax,[]);rw[Dr,N.nwH],by dsimp only;rw[N.nwQ,N.nwL];rfl⟩
 have a:=AEG (l:=p.2) (by omega) big 0 [] _ (by have:=Kh;omega) (by omega) rfl g j;rw[show ((0:Nat):Int)=0 from rfl,c]at a;have a:=Option.some.inj a;have q:x.1=(plF (D4 p.1).1 p.2).1:=by rw[a];rfl
 have J:x.2.1=(plF (D4 p.1).1 p.2).2:=by rw[a];rfl
 have L:x.2.2=true:=by rw[a]
 have ⟨H,X⟩:=AUO (r:=p.1) p.2 0 _ (by omega) g j;rw[L,BQ,mu B,AB];have I:((D4 p.1).1.Di.length:Int)=0:=by rw[O];rfl
 have Y:WSm 60 (plF (D4 p.1).1 p.2).1:=⟨H.wsF,H.wsL,by have:=H.wsD;omega,by have:=H.wsR;omega⟩;have key:=oF B G (l:=p.2) (w0:=(D4 p.1).1) (x:=x) (y:=x) (by omega) q (by rw[q];exact X) (by rw[q];exact Y) J rfl big 0 _ (by have:=Kh;omega) (by omega) g j rfl rfl;rw[I]at key;exact key
end Lv.P
