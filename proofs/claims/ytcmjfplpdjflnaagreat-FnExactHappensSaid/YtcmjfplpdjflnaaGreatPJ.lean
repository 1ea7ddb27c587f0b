/- Plain laws about what the program computes. -/
import Derived.Test.YtcmjfplpdjflnaaGreatPI
noncomputable section
set_option linter.unusedVariables false
set_option linter.unusedSimpArgs false
set_option linter.unusedSectionVars false
open Bool renaming and_eq_true->AE,and_false->C7,not_eq_true'->BF
open List renaming filterMap_cons->H9,filter_cons->ET,flatten_append->IA,flatten_cons->EB,foldl_cons->Bv,getElem_mem->Ao,mem_cons->Ar,mem_cons_of_mem->Au,mem_cons_self->Bc,pairwise_cons->BT,pairwise_filterMap->Ev,pairwise_iff_getElem->CV,perm_middle->JS,set_eq_take_append_cons_drop->Et
open Nat renaming add_assoc->CO,le_succ->Cz,le_trans->A1
namespace Lv.P
open Lv Go
theorem QS{h:AF}{id:Int}(a:verdict h ⟨5,id,0,0,0,0⟩=0):D6 h=true/\0<=Fv h id:=by
 grind[verdict,HL,Jo,Fv]
def AO2(h:AF)(id:Int):AF:=El (Hw h (par h id)) (Qa (Hw h (par h id)).BE (par h id).AY)
def Mv(h:AF)(id:Int):AF×Int:=
 if verdict h ⟨5,id,0,0,0,0⟩≠0 then (h,verdict h ⟨5,id,0,0,0,0⟩) else (AO2 h id,0)
theorem ud{n:Nat}(I:n+3<=1048576){h:AF}(g:Sm n h)(id:Int):AIO h id=some (Mv h id)/\Sm (n+3) (Mv h id).1:=by
 have j:=g.fit (by omega);unfold AIO Mv;rw[HF j,AB,Gj j,AB];simp only[CJ,bne_iff_ne,ne_eq];by_cases e:verdict h ⟨5,id,0,0,0,0⟩=0
 .obtain⟨E,p0⟩:=QS e;obtain⟨q,y,H,B,G⟩:=kV E p0;rw[AT (not_not_intro e),AT (not_not_intro e),Gi j];simp only[AB,XG p0 (P4 p0).1,Ch,KX,KY,KZ,Ka,Jw,Kb,Kc,Fl];have a:=APD g (par h id);show bd (nj h (par h id)) _=_/\_;rw[TO (by omega) g q y B,AB,IX (by have:=a.todo;omega),AB];have c:=a.mono (Cz (n+2));exact⟨rfl,c.Dr,c.CN,c.EN,c.Dw,A1 (PG _ _) (by have:=a.todo;omega),c.F5⟩
 .rw[AW e,AW e];exact⟨rfl,g.mono (by omega)⟩
theorem R3{h:AF}{id:Int}(a:verdict h ⟨2,id,0,0,0,0⟩=0):D6 h=true/\0<=Fv h id:=by
 grind[verdict,HL]
def lM(h:AF)(k id:Int):AF:=Cu h k ⟨(cbn h k).AZ,(cbn h k).Row.eraseP (fun x=>x.Id==id),(cbn h k).Bq⟩
def cancelled(h:AF)(id:Int):AF:=
 let p:=par h id
 if p.State=2 then gone (El (dropped h p) (Qa (dropped h p).BE p.AY)) p else gone (lM h p.AY id) p
def PV(h:AF)(id:Int):AF×Int:=
 if verdict h ⟨2,id,0,0,0,0⟩≠0 then (h,verdict h ⟨2,id,0,0,0,0⟩) else (cancelled h id,0)
theorem AFL{h:AF}(e:By h){p:AM}(a:0<=p.AY)(c:p.AY<h.AH.length):fv h p=some (dropped h p):=Wv e a c
theorem ACm{n:Nat}(O:n+1<=1048576){h:AF}(c:Sm n h)(id:Int):AIc h id=some (PV h id)/\Sm (n+1) (PV h id).1:=by
 have j:=c.fit (by omega);unfold AIc PV;rw[HF j,AB,Gj j,AB];simp only[CJ,bne_iff_ne,ne_eq];by_cases e:verdict h ⟨2,id,0,0,0,0⟩=0
 .obtain⟨J,p0⟩:=R3 e;obtain⟨y,B,Q,G,L⟩:=kV J p0;rw[AT (not_not_intro e),AT (not_not_intro e),Gi j];simp only[AB,XG p0 (P4 p0).1,Ch,KX,KY,KZ,Ka,Jw,Kb,Kc,Fl,beq_iff_eq,AU];show (if (par h id).State=2 then bd (fv h (par h id)) _ else bd (at? h.AH (par h id).AY) _)=_/\_;unfold cancelled;dsimp only;by_cases q:(par h id).State=2
  .rw[AW q,AW q,AFL j y B,AB];have E:=Mw c (par h id);rw[IX (by have:=E.todo;omega),AB];have a:=E.mono (Cz n);have H:Sm (n+1) (El (dropped h (par h id)) (Qa (dropped h (par h id)).BE (par h id).AY)):=
    ⟨a.Dr,a.CN,a.EN,a.Dw,A1 (PG _ _) (by have:=E.todo;omega),a.F5⟩
   unfold Vf;show bd (Su (El (dropped h (par h id)) (Qa (dropped h (par h id)).BE (par h id).AY)) (par h id)) _=_/\_;rw[MQ (H.fit O) (by (have:(El (dropped h (par h id)) (Qa (dropped h (par h id)).BE (par h id).AY)).AH.length=h.AH.length:=by simp[El,dropped,Cu]);rw[this];exact G),AB];exact⟨rfl,aO H _⟩
  .rw[AT q,AT q];simp only[show at? h.AH (par h id).AY=some (cbn h (par h id).AY) from FF y B,show at? h.AH (h.AG.getD (Fv h id).toNat uF).AY=some (cbn h (par h id).AY) from FF y B,AB];have g:=c.cbn (par h id).AY;show bd (fw (cbn h (par h id).AY).Row id) _=_/\_;rw[TI (by have:=g.row;omega),AB];have I:Sm n (lM h (par h id).AY id):=c.cab ⟨A1 (Tc _ _) g.row,g.TP,g.pins⟩;unfold Vf;show bd (Su (lM h (par h id).AY id) (par h id)) _=_/\_;rw[MQ (I.fit (by omega)) (by (have:(lM h (par h id).AY id).AH.length=h.AH.length:=by simp[lM,Cu]);rw[this];exact G),AB];exact⟨rfl,(aO I _).mono (Cz n)⟩
 .rw[AW e,AW e];exact⟨rfl,c.mono (by omega)⟩
theorem R0{h:AF}{id:Int}(a:verdict h ⟨4,id,0,0,0,0⟩=0):D6 h=true/\0<=Fv h id:=by
 grind[verdict,HL,Jo,Fv]
def Ws(h:AF)(p:AM):AF:=Cu h p.AY ⟨(l8 (cbn h p.AY).AZ p.BB 0 (-1) 1 0).1,(cbn h p.AY).Row,(Sl (cbn h p.AY).Bq ⟨p.Cq,p.Id⟩).1⟩
theorem AXa{n:Nat}{h:AF}(c:Sm n h)(p:AM):Sm n (Ws h p):=by
 have a:=c.cbn p.AY;have e:=AKb a ⟨p.Cq,p.Id⟩;exact c.cab ⟨a.row,e.1,e.2⟩
def accepted(h:AF)(id:Int):AF:=
 let p:=par h id
 if 0<=p.Bk then Sw (gone (Ws h p) p) p.Bk p.BB else gone (Ws h p) p
def PO(h:AF)(id:Int):AF×Int:=
 if verdict h ⟨4,id,0,0,0,0⟩≠0 then (h,verdict h ⟨4,id,0,0,0,0⟩) else (accepted h id,0)
theorem ASk(h:AF)(p:AM):(gone h p).AH.length=h.AH.length:=by grind[gone,Cu]
theorem ACk{n:Nat}(O:n+1<=1048576){h:AF}(j:Sm n h)(id:Int):AIg h id=some (PO h id)/\Sm (n+1) (PO h id).1:=by
 have e:=j.fit (by omega);unfold AIg PO;rw[HF e,AB,Gj e,AB];simp only[CJ,bne_iff_ne,ne_eq];by_cases c:verdict h ⟨4,id,0,0,0,0⟩=0
 .obtain⟨H,p0⟩:=R0 c;obtain⟨q,y,L,B,J⟩:=kV H p0;rw[AT (not_not_intro c),AT (not_not_intro c),Gi e];have I:=(e.Dw _ (TV q y)).2;have G:=AXa j (par h id);have E:(Ws h (par h id)).AH.length=h.AH.length:=by simp[Ws,Cu]
  simp only[AB,XG p0 (P4 p0).1,show at? h.AH (h.AG.getD (Fv h id).toNat uF).AY=some (cbn h (par h id).AY) from FF q y,Ch,KX,KY,KZ,Ka,Jw,Kb,Kc,Fl,kx,TL I,AU,BH,ge_iff_le,decide_eq_true_eq];rw[B4 ⟨rfl,⟨by omega,by omega⟩,trivial⟩];show bd (Su (Ws h (par h id)) (par h id)) _=_/\_;rw[MQ (G.fit (by omega)) (by rw[E];exact B),AB];have g:=aO G (par h id);unfold accepted fy;dsimp only;by_cases a:0<=(par h id).Bk
  .rw[AW a];show (if 0<=(par h id).Bk then bd (ni (gone (Ws h (par h id)) (par h id)) (par h id).Bk (par h id).BB) _ else _)=_/\_;rw[AW a,Ww (g.fit (by omega)) a (by rw[ASk,E];exact B),AB];exact⟨rfl,ABN g _ _⟩
  .rw[AT a];show (if 0<=(par h id).Bk then _ else _)=_/\_;rw[AT a];exact⟨rfl,g.mono (Cz n)⟩
 .rw[AW c,AW c];exact⟨rfl,j.mono (by omega)⟩
def PF(h:AF)(i:Nat):AF:=
 let x:=Cu h i ⟨(cbn h i).AZ,Dp h.AQ h.AG i h.Now,(cbn h i).Bq⟩
 if 0<DG h.AG i then El x (Qa h.BE i) else x
def Ni:Nat->Nat->AF->AF|0,_,h=>h|k+1,i,h=>Ni k (i+1) (PF h i)
theorem pd(h:AF)(i:Nat):(PF h i).AH.length=h.AH.length:=by grind[PF,Cu,El]
theorem lJ{n:Nat}{h:AF}(c:Sm n h)(i:Nat):Sm (n+1) (PF h i):=by
 have e:=c.cbn (i:Int);have g:(Dp h.AQ h.AG (i:Int) h.Now).length<=n:=by
  unfold Dp;rw[IV];exact A1 (List.length_filterMap_le _ _) c.CN
 have j:Sm n (Cu h i ⟨(cbn h i).AZ,Dp h.AQ h.AG i h.Now,(cbn h i).Bq⟩):=c.cab ⟨g,e.TP,e.pins⟩;have a:=j.mono (Cz n);unfold PF;dsimp only;split
 .exact⟨a.Dr,a.CN,a.EN,a.Dw,A1 (PG _ _) (by have:=c.todo;omega),a.F5⟩
 .exact a
theorem AVb{n:Nat}{h:AF}(B:Sm n h)(H:n+h.AH.length<=1048576):A3 Vb big (0,h)=some (Ni h.AH.length 0 h,0):=by
 generalize a:h.AH.length=len at *;refine(DA (F:=Vb) (n:=len) (fun i (v:AF)=>((i:Int),v)) (fun i v=>Sm (n+i) v/\v.AH.length=len) (fun i v=>some (Ni (len-i) i v,0)) (by omega) ?_ (v:=h) ⟨B,a⟩).trans (by rw[Nat.sub_zero]);intro L i v ⟨y,c⟩ hi G;have j:=y.fit (by omega);unfold Vb;dsimp only;rw[c];rcases Nat.lt_or_ge i len with g|g
 .have I:=j.Dr;have E:=j.CN;rw[B6 g,BL,QC (by omega) E,AB,FF (by omega) (by omega),AB,AB,P9 (by omega),AB];have e:Ni (len-i) i v=Ni (len-(i+1)) (i+1) (PF v i):=by rw[show len-i=(len-(i+1))+1 by omega];rfl
  rw[e];have q:=G (PF v i) ⟨by have:=lJ y i;rw[CO]at this;exact this,by rw[pd];exact c⟩ g;rw[<-q];unfold fP PF;simp only[BH,gt_iff_lt,AU,Bp g (show len<2 ^ 63 by omega),Int.toNat_natCast,IX j.todo,AB];split<;>rfl
 .have:i=len:=by omega
  subst this;rw[C5,BO,AU,Nat.sub_self];rfl
def AZ4(h:AF):AF:=Ni h.AH.length 0 ⟨h.AQ,w64 (h.Now+1),h.Ay,h.AG,h.AH,h.BE,h.BC⟩
def lK(h:AF):AF×Int:=
 if verdict h ⟨6,0,0,0,0,0⟩≠0 then (h,verdict h ⟨6,0,0,0,0,0⟩) else (AZ4 h,0)
theorem ACx:∀(k i:Nat) {n:Nat} {h:AF},Sm n h->Sm (n+k) (Ni k i h)|0,_,_,_,a=>a|k+1,i,n,h,a=>by have:=ACx k (i+1) (lJ a i);rw[CO,Nat.add_comm 1 k]at this;exact this
theorem ANX{n:Nat}{h:AF}(a:Sm n h)(j:n+h.AH.length<=1048576):AIP h=some (lK h)/\Sm (n+h.AH.length) (lK h).1:=by
 have g:=a.fit (by omega);unfold AIP lK;rw[HF g,AB,Gj g,AB];simp only[CJ,bne_iff_ne,ne_eq];have e:Sm n ⟨h.AQ,w64 (h.Now+1),h.Ay,h.AG,h.AH,h.BE,h.BC⟩:=⟨a.Dr,a.CN,a.EN,a.Dw,a.todo,a.F5⟩;by_cases c:verdict h ⟨6,0,0,0,0,0⟩=0
 .rw[AT (not_not_intro c),AT (not_not_intro c),AVb e j];exact⟨rfl,ACx _ _ e⟩
 .rw[AW c,AW c];exact⟨rfl,a.mono (by omega)⟩
def iU(w:Av)(now:Int):List Int:=(FL w).filterMap fun p=>if p.At<=now then some p.Id else none
theorem uk{w:Av}(a:DP w)(now:Int):AAG w now=some ((FL w).filter fun p=>decide (p.At<=now)):=by
 have hlim:lim=268435456:=rfl;have c:=Kr a;unfold AAG;rw[Zr a,AB,collect (l:=FL w) (fun p=>if p.At<=now then some p else none) some c ?_ ?_]
 .congr 1;generalize FL w=l
  induction l with
  |nil=>rfl|cons p l e=>
   grind
 .grind[fS,fR,BG,AB,BH,AU,B4]
 grind[fS,AAH,BO,AU]
theorem ACq{h:AF}(g:By h){k:Int}(a:0<=k)(c:k<h.AH.length):AIQ h k=some (iU (cbn h k).Bq h.Now):=by
 have hlim:lim=268435456:=rfl;have e:=(g.Dw _ (TV a c)).2;have j:=Kr e;unfold AIQ;rw[FF a c,AB];show bd (AAG (cbn h k).Bq h.Now) _=_;rw[uk e,AB];generalize hD:(FL (cbn h k).Bq).filter (fun p=>decide (p.At<=h.Now))=D;have hDl:D.length<=1048576:=by rw[<-hD];exact A1 (List.length_filter_le _ _) j
 rw[collect (l:=D) (fun p=>some p.Id) some hDl ?_ ?_]
 .unfold iU;rw[<-hD];congr 1;generalize FL (cbn h k).Bq=l
  induction l with
  |nil=>rfl|cons p l q=>
   grind
 .grind[fT,BL,BG,AB,B4]
 grind[fT,AAI,BO,AU]
section
variable{α:Type}{lt:α->α->Bool}
theorem Wc(a:α):∀l:List α,(put lt a l).Perm (a::l)
 | []=>.refl _|z::l=>by
  unfold put;split
  .exact((Wc a l).cons z).trans (.swap a z l)
  .exact .refl _
theorem Ma:∀l:List α,(DK lt l).Perm l| []=>.refl _|a::l=>(Wc a _).trans ((Ma l).cons a)
def QI(lt:α->α->Bool)(l:List α):Prop:=l.Pairwise fun a b=>lt a b=true\/lt b a=true
theorem QI.perm{a c:List α}(h:QI lt a)(e:a.Perm c):QI lt c:=(e.pairwise_iff (fun h=>h.symm)).1 h
theorem LQ(h:Swo lt){l:List α}(q:QI lt l):(DK lt l).Pairwise fun a b=>lt a b=true:=by
 have c:(DK lt l).Pairwise fun a b=>lt b a=false:=SN h l
 have e:QI lt (DK lt l):=q.perm (Ma (lt:=lt) l).symm;exact(c.and e).imp fun {a b} ⟨g,j⟩=>j.resolve_right (by rw[g];simp)
theorem pW(h:Swo lt):∀{g j:List α},(g.Pairwise fun a b=>lt a b=true)->(j.Pairwise fun a b=>lt a b=true)->g.Perm j->g=j
 | [],j,_,_,c=>c.nil_eq|a::g,[],_,_,c=>by cases c.eq_nil
 |a::g,b::j,q,y,c=>by
  rw[BT]at q y;by_cases e:a=b
  .subst e;rw[pW h q.2 y.2 c.cons_inv]
  .have E:a∈j:=(Ar.1 (c.subset (Bc ..))).resolve_left e;have B:b∈g:=(Ar.1 (c.symm.subset (Bc ..))).resolve_left (Ne.symm e);have:=h.qD _ _ (q.1 b B)
   grind
theorem AXb(h:Swo lt){a c:List α}(e:QI lt a)(g:a.Perm c):DK lt a=DK lt c:=
 pW h (LQ h e) (LQ h (e.perm g)) ((Ma a).trans (g.trans (Ma c).symm))
end
structure Uni(ps:List AM):Prop where
 id:ps.Pairwise fun p q=>p.Id≠q.Id
 turn:ps.Pairwise fun p q=>p.Ay≠q.Ay
theorem Uni.perm{a b:List AM}(h:Uni a)(c:a.Perm b):Uni b:=⟨(c.pairwise_iff (fun h=>Ne.symm h)).1 h.id,(c.pairwise_iff (fun h=>Ne.symm h)).1 h.turn⟩
theorem Uni.tail{p:AM}{b:List AM}(h:Uni (p::b)):Uni b:=⟨(BT.1 h.id).2,(BT.1 h.turn).2⟩
theorem Pb{r:Ae}{now:Int}{p:AM}(a:Dn r p now=true)(c:p.State=1):EX r p now=(⟨Hy r p now,p.Ay,p.Id,p.BB⟩,true):=by
 grind[EX]
theorem ZN{r:Ae}{now:Int}{p:AM}(h:¬(Dn r p now=true/\p.State=1)):EX r p now=(⟨0,0,0,0⟩,false):=by
 unfold EX;rw[AT h]
theorem Jd{r:Ae}{c now:Int}{p:AM}{e:Ad}(h:Ks r c now p=some e):e=⟨Hy r p now,p.Ay,p.Id,p.BB⟩/\Dn r p now=true/\p.State=1/\p.AY=c:=by
 grind[Ks,Pb,ZN]
theorem ALl{r:Ae}{now:Int}{p:AM}(a:Dn r p now=true)(e:p.State=1)(c:Int):Ks r c now p=if p.AY=c then some ⟨Hy r p now,p.Ay,p.Id,p.BB⟩ else none:=by
 unfold Ks;rw[Pb a e];simp
theorem ATv{r:Ae}{c now:Int}{p:AM}(a:p.State≠1):Ks r c now p=none:=by
 grind[Ks,ZN]
theorem SW{c:Int}{p:AM}{e:A7}(h:Lg c p=some e):e=⟨p.Cq,p.Id⟩/\p.State=2/\p.AY=c:=by
 grind[Lg]
theorem AN3{ps:List AM}(h:Uni ps)(r:Ae)(c now:Int):QI ltE (ps.filterMap (Ks r c now)):=by
 unfold QI;rw[Ev];refine h.turn.imp ?_;intro p q j a e b g;obtain⟨rfl,_⟩:=Jd e;obtain⟨rfl,_⟩:=Jd g
 grind[SO]
theorem ACG{ps qs:List AM}(h:Uni ps)(a:ps.Perm qs)(r:Ae)(c now:Int):Dp r ps c now=Dp r qs c now:=AXb aR (AN3 h r c now) (a.filterMap _)
theorem T9{ps qs:List AM}(a:ps.Perm qs)(c:Int):Fo ps c=Fo qs c:=jU Ei aS (a.filterMap _)
theorem Rj(r:Ae)(p:AM)(ps:List AM)(c now:Int):Dp r (p::ps) c now=match Ks r c now p with|some e=>put ltE e (Dp r ps c now)|none=>Dp r ps c now:=by
 unfold Dp;rw[H9];cases Ks r c now p<;>rfl
theorem T8(p:AM)(ps:List AM)(c:Int):Fo (p::ps) c=match Lg c p with|some e=>put ltP e (Fo ps c)|none=>Fo ps c:=by
 unfold Fo;rw[H9];cases Lg c p<;>rfl
theorem Mz(f:AM->Int)(g:Int->AM->Int)(a:∀n p,g n p=n+f p):∀(l:List AM) (n:Int),l.foldl g n=n+l.foldl g 0| [],n=>by simp|p::l,n=>by rw[Bv,Bv,Mz f g a l,Mz f g a l (g 0 p),a,a];omega
def WA(c:Int)(p:AM):Int:=if ((p.State==2)&&((p.AY==c)&&inB p.BB 1 6))=true then p.BB else 0
def pe(c:Int)(p:AM):Int:=if ((p.Bk==c)&&inB p.BB 1 6)=true then p.BB else 0
def AWJ(c:Int)(p:AM):Int:=if (p.AY==c)=true then 1 else 0
theorem AJq(c n:Int)(p:AM):Sx c n p=n+WA c p:=by grind[Sx,WA]
theorem AKV(c n:Int)(p:AM):TQ c n p=n+pe c p:=by grind[TQ,pe]
theorem wG(c n:Int)(p:AM):LV c n p=n+AWJ c p:=by grind[LV,AWJ]
theorem M3(p:AM)(ps:List AM)(c:Int):II (p::ps) c=WA c p+II ps c:=by
 unfold II;rw[Bv,Mz _ _ (AJq c),AJq];omega
theorem UL(p:AM)(ps:List AM)(c:Int):Ik (p::ps) c=pe c p+Ik ps c:=by
 unfold Ik;rw[Bv,Mz _ _ (AKV c),AKV];omega
theorem Y4(p:AM)(ps:List AM)(c:Int):DG (p::ps) c=AWJ c p+DG ps c:=by
 unfold DG;rw[Bv,Mz _ _ (wG c),wG];omega
theorem lE{F:List AM->Int}{f:AM->Int}(hF:∀p l,F (p::l)=f p+F l){a b:List AM}(g:a.Perm b):F a=F b:=by
 induction g with
 |nil=>rfl|cons x _ h=>rw[hF,hF,h]|swap x y l=>rw[hF,hF,hF,hF];omega|trans _ _ c e=>exact c.trans e
theorem AFA{a b:List AM}(e:a.Perm b)(c:Int):II a c=II b c:=lE (F:=fun l=>II l c) (fun p l=>M3 p l c) e
theorem AGX{a b:List AM}(e:a.Perm b)(c:Int):Ik a c=Ik b c:=lE (F:=fun l=>Ik l c) (fun p l=>UL p l c) e
theorem Qj{a b:List AM}(e:a.Perm b)(c:Int):DG a c=DG b c:=lE (F:=fun l=>DG l c) (fun p l=>Y4 p l c) e
theorem AGQ{F:List AM->Int}{f:AM->Int}(c:F []=0)(hF:∀p l,F (p::l)=f p+F l)(a:∀p,0<=f p):∀l,0<=F l| []=>by omega|p::l=>by have:=a p;have:=AGQ c hF a l;rw[hF];omega
theorem AS1(c:Int)(p:AM):0<=WA c p:=by
 grind[WA,CQ]
theorem AVc(c:Int)(p:AM):0<=pe c p:=by
 grind[pe,CQ]
theorem ABT(l:List AM)(c:Int):0<=II l c:=AGQ (F:=fun l=>II l c) rfl (fun p l=>M3 p l c) (AS1 c) l
theorem AVd(l:List AM)(c:Int):0<=Ik l c:=AGQ (F:=fun l=>Ik l c) rfl (fun p l=>UL p l c) (AVc c) l
def wOf(S:List A7):Av:=⟨(List.range 9).map fun i=>S.filter (FZ i)⟩
theorem ae(S:List A7):(wOf S).An.length=9:=by simp[wOf]
theorem vO(S:List A7){i:Nat}(h:i<(wOf S).An.length):(wOf S).An[i]=S.filter (FZ i):=by simp[wOf]
theorem AVp(S:List A7){i:Nat}(h:i<9):(wOf S).An.getD i []=S.filter (FZ i):=by
 rw[List.getD_eq_getElem?_getD,List.getElem?_eq_getElem (by rw[ae];exact h),Option.getD_some,vO]
theorem vP{S T:List A7}{k:Nat}(a:k<9)(h:∀i,i<9->i≠k->T.filter (FZ i)=S.filter (FZ i)):(⟨(wOf S).An.set k (T.filter (FZ k))⟩:Av)=wOf T:=by
 unfold wOf;congr 1;apply List.ext_getElem
 .simp
 grind
theorem lS:∀{S:List A7},(∀p∈S,1<=p.At)->(wOf S).An.flatten.Perm S
 | [],_=>by simp[wOf]|p::S,h=>by
  obtain⟨k,c,e⟩:=Zy (h p (Bc ..));have G:=lS (S:=S) fun q E=>h q (Au _ E)
  have a:FZ k p=true:=Ja.2 e;have j:=vP (S:=S) (T:=p::S) c (by
   intro i hi B;have:FZ i p=false:=by
    grind[FZ]
   simp[ET,this])
  rw[<-j];have g:k<(wOf S).An.length:=by rw[ae];exact c
  have y:(p::S).filter (FZ k)=p::(wOf S).An[k]:=by rw[vO];simp[ET,a]
  rw[y];dsimp only;rw[Et,AW g,IA,EB,List.cons_append];refine(JS).trans (List.Perm.cons p ?_);rw[<-EB,<-IA,<-DR g,List.take_append_drop];exact G
structure OB(S:List A7):Prop where
 few:S.length<=10
 pins:∀p∈S,P2 p=true
 ids:S.Pairwise fun a b=>a.Id≠b.Id
 srt:S.Pairwise fun a b=>ltP a b=true
theorem lT{S:List A7}(h:OB S):Nn (wOf S):=by
 have c:=lS fun p c=>(ML (h.pins p c)).1.1
 refine⟨ae S,by rw[c.length_eq];exact h.few,fun p e=>h.pins p (c.subset e),(c.pairwise_iff (fun h=>Ne.symm h)).2 h.ids,?_,?_⟩
 .grind[wOf,FZ]
 .intro i hi k j;have g:(S.filter (FZ i)).Pairwise fun a b=>ltP a b=true:=h.srt.filter _
  grind[vO,List.pairwise_iff_getElem]
theorem AC5{S:List A7}(h:OB S):FL (wOf S)=S:=by
 have a:=lS fun p a=>(ML (h.pins p a)).1.1
 unfold FL;rw[AW (Dq.2 (lT h)),jU Ei aS a,Ok Ei h.srt]
theorem AaA{w:Av}(a:Ht w=true):w=wOf (FL w):=by
 unfold FL;rw[AW a];exact Yv (Dq.1 a)
structure XC(r:Ae)(ps:List AM)(now:Int)(i:Nat)(c:AX):Prop where
 row:c.Row=Dp r ps i now
 G0:c.Bq=wOf (Fo ps i)
 total:c.AZ.Total=r.AZ.getD i 0
 held:c.AZ.EZ=II ps i
 JN:c.AZ.Fa=Ik ps i
 led:FE c.AZ=true
 room:DG ps i<=r.Room
structure QU(r:Ae)(now turn:Int)(ps:List AM):Prop where
 few:ps.length<=40
 par:∀p∈ps,Dn r p now=true/\p.Ay<turn
 ids:ps.Pairwise fun p q=>p.Id<q.Id
 turns:ps.Pairwise fun p q=>Hr p q=false
structure RH(h:AF):Prop where
 rules:EO h.AQ=true
 now:0<=h.Now/\h.Now<=1000000
 turn:1<=h.Ay/\h.Ay<=1000001
 EN:h.AH.length=h.AQ.AZ.length
 J2:QU h.AQ h.Now h.Ay h.AG
 cab:∀i (hi:i<h.AH.length),XC h.AQ h.AG h.Now i h.AH[i]
 todo:IQ h.BE h.AH.length=true
 F5:L7 h.BC h.AH.length=true
 Rb:(h.BC.length:Int)=h.AQ.C3
theorem ADN(p q:AM):Hr p q=Hr q p:=by
 grind[Hr]
theorem AOH{p q:AM}(h:Hr p q=false):p.Ay≠q.Ay:=by
 grind[Hr]
theorem QU.uni{r:Ae}{now turn:Int}{ps:List AM}(h:QU r now turn ps):Uni ps:=⟨h.ids.imp fun h=>by omega,h.turns.imp fun h=>AOH h⟩
theorem je:Swo J1:=⟨fun a b h=>by unfold J1 at *;simp only[decide_eq_true_eq,decide_eq_false_iff_not]at *;omega,fun a b c h=>by unfold J1 at *;simp only[decide_eq_true_eq]at *;omega⟩
theorem Zf{h:AF}:J3 h=true↔(∀p∈h.AG,Dn h.AQ p h.Now=true/\p.Ay<h.Ay)/\(h.AG.Pairwise fun p q=>p.Id<q.Id)/\h.AG.Pairwise fun p q=>Hr p q=false:=by
 have a:∀i (hi:i<h.AG.length),Ze h i=true↔Dn h.AQ h.AG[i] h.Now=true/\h.AG[i].Ay<h.Ay/\(∀j (c:j<h.AG.length),j+1=i->h.AG[j].Id<h.AG[i].Id)/\∀j (c:j<i),Hr h.AG[j] h.AG[i]=false:=by
  grind[Ze,CP,Je]
 grind[J3,Je,List.mem_iff_getElem,Mn,J1,je,List.pairwise_iff_getElem]
theorem ATP{r:Ae}{p:AM}{now:Int}(h:Dn r p now=true):0<=Hy r p now/\Hy r p now<=4:=by
 have c:=E3 h;have j:=CR c.1;have a:=oe r p.Cv (w64 (now-p.Since));unfold Hy;rw[AW h];refine⟨a,?_⟩;unfold YS;rw[Aq (n:=now-p.Since) (by omega) (by omega)];have e:0<=(now-p.Since).tdiv r.CE:=Int.tdiv_nonneg (by omega) (by omega);have g:(now-p.Since).tdiv r.CE<=now-p.Since:=by rw[Int.tdiv_eq_ediv_of_nonneg (by omega)];exact Int.ediv_le_self _ (by omega)
 grind[Aq]
theorem P7{r:Ae}{ps:List AM}{c now:Int}{e:Ad}(h:e∈Dp r ps c now):∃p∈ps,Ks r c now p=some e:=by
 grind[Dp,Ol]
theorem ou{ps:List AM}{c:Int}{e:A7}(h:e∈Fo ps c):∃p∈ps,Lg c p=some e:=by
 grind[Fo,Ol]
theorem AF1{r:Ae}{ps:List AM}(h:Uni ps)(c now:Int):(Dp r ps c now).Pairwise fun a b=>a.Id≠b.Id:=by
 refine((Ma _).pairwise_iff (fun h=>Ne.symm h)).2 ?_;rw[Ev];refine h.id.imp ?_;intro p q e a g b j;obtain⟨rfl,_⟩:=Jd g;obtain⟨rfl,_⟩:=Jd j;exact e
theorem P6(r:Ae)(ps:List AM)(c now:Int):((Dp r ps c now).length:Int)<=DG ps c:=by
 unfold Dp;rw[IV];exact aK _ c (by intro p h;unfold Ks;rw[h,C7];rfl) ps
theorem ALg(ps:List AM)(c:Int):((Fo ps c).length:Int)<=DG ps c:=by
 unfold Fo;rw[IV];exact aK _ c (by intro p h;unfold Lg;rw[h,C7];rfl) ps
theorem ACH{r:Ae}{ps:List AM}{now turn:Int}(y:QU r now turn ps){c:Int}(J:DG ps c<=10):J5 (Dp r ps c now)=true:=by
 have L:=y.uni;have I:=P6 r ps c now;unfold J5;rw[AE,Je];refine⟨by simp;omega,?_⟩;intro k g;unfold qAt;rw[CP g];obtain⟨p,B,j⟩:=P7 (Ao g);obtain⟨h,e,G,H⟩:=Jd j;have q:=ATP e;have a:=E3 e;have E:=CR a.1;simp only[AE,BF,decide_eq_false_iff_not];refine⟨?_,?_,?_⟩
 .rw[h];unfold AO9;simp only[AE,CQ];omega
 .grind[CP,Dp,List.pairwise_iff_getElem,LQ,aR,AN3]
 .have:atF (fun x:Ad=>x.Id==(Dp r ps c now)[k].Id) ((Dp r ps c now).take k) 0<0:=by
   rw[av]
   grind[List.mem_iff_getElem,List.pairwise_iff_getElem,AF1]
  omega
theorem Wb{r:Ae}{ps:List AM}{now turn:Int}(B:QU r now turn ps){c:Int}(Q:DG ps c<=10):OB (Fo ps c):=by
 have O:=ALg ps c;have g:(ps.filterMap (Lg c)).Pairwise fun a b=>a.Id≠b.Id:=by
  rw[Ev];refine B.uni.id.imp ?_;intro p q j a E b G;obtain⟨rfl,_⟩:=SW E;obtain⟨rfl,_⟩:=SW G;exact j
 refine⟨by omega,?_,((Ma _).pairwise_iff (fun h=>Ne.symm h)).2 g,LQ Ei (g.imp ?_)⟩
 .intro e H;obtain⟨p,y,I⟩:=ou H;obtain⟨rfl,J,_⟩:=SW I;have L:=E3 (B.par p y).1
  grind[CR,P2,CQ]
 grind[ltP]
theorem JY{h:AF}:D6 h=true↔RH h:=by
 constructor
 .intro Y;obtain⟨G,H,I,J,L,O,Q,S,X,q⟩:=Kh Y;obtain⟨y,B,E⟩:=Zf.1 O;refine⟨G,H,I,L,⟨J,y,B,E⟩,?_,Q,S,X⟩;intro i hi;have j:i<h.AQ.AZ.length:=by omega
  have c:=Je.1 q i hi;unfold Y1 at c;rw[CP hi,CP j]at c;unfold Jk Qg at c;simp only[AE,beq_iff_eq,BF,decide_eq_false_iff_not,Jg qg,Jg qv]at c;obtain⟨k1,⟨⟨l1,k3,k4⟩,k5,k6,k7,k8⟩,k9⟩:=c;refine⟨k5,?_,?_,k7,k8,l1,by omega⟩
  .rw[<-k6];exact AaA k4
  .rw[k1];simp[List.getD,j]
 .intro hR;unfold D6;have Z:=CR hR.rules;simp only[AE,CQ,BF,decide_eq_false_iff_not,beq_iff_eq];refine⟨hR.rules,hR.now,hR.turn,by have:=hR.J2.few;omega,by rw[hR.EN],Zf.2 ⟨hR.J2.par,hR.J2.ids,hR.J2.turns⟩,⟨hR.todo,hR.F5,hR.Rb⟩,?_⟩;unfold ME;rw[Je];intro i hi;have j:i<h.AQ.AZ.length:=by have:=hR.EN;omega
  have a:=hR.cab i hi;have g:DG h.AG i<=10:=by have:=a.room;omega
  have e:=Wb hR.J2 g;unfold Y1 Jk Qg;rw[CP hi,CP j];simp only[AE,beq_iff_eq,BF,decide_eq_false_iff_not,Jg qg,Jg qv];refine⟨?_,⟨⟨a.led,?_,?_⟩,a.row,?_,a.held,a.JN⟩,by have:=a.room;omega⟩
  .rw[a.total];simp[List.getD,j]
  .rw[a.row];exact ACH hR.J2 g
  .rw[a.G0];exact Dq.2 (lT e)
  .rw[a.G0];exact AC5 e
theorem HB{l:BJ}:FE l=true↔(1<=l.Total/\l.Total<=60)/\(0<=l.DY/\l.DY<=l.Total)/\(0<=l.EZ/\l.EZ<=l.Total)/\(0<=l.FM/\l.FM<=l.Total)/\l.DY+l.EZ+l.FM=l.Total/\0<=l.Fa/\l.Fa<=l.FM:=by
 grind[FE,CQ,Aq]
theorem AJy{l:BJ}(q:FE l=true){n a b c d:Int}(J:0<=n/\n<=60)(e:a = -1\/a=0\/a=1)(g:b = -1\/b=0\/b=1)(h:c = -1\/c=0\/c=1)(j:d = -1\/d=0\/d=1)
 (H:FE ⟨l.Total,l.DY+a*n,l.EZ+b*n,l.FM+c*n,l.Fa+d*n⟩=true):l8 l n a b c d=(⟨l.Total,l.DY+a*n,l.EZ+b*n,l.FM+c*n,l.Fa+d*n⟩,true):=by
 have I:=HB.1 q;have w:∀a x:Int,(a = -1\/a=0\/a=1)->0<=x->x<=60->w64 (x+w64 (a*n))=x+a*n:=by
  grind[Aq]
 have y:=w a l.DY e (by omega) (by omega);have B:=w b l.EZ g (by omega) (by omega);have E:=w c l.FM h (by omega) (by omega);have G:=w d l.Fa j (by omega) (by omega);unfold l8
 grind[CQ]
section
variable{α:Type}{lt:α->α->Bool}
theorem SJ{p:α->Bool}{a:α}(c:p a=true):∀{l:List α},(∀x∈l,p x=false)->(put lt a l).eraseP p=l
 | [],_=>by simp[put,c]|z::l,h=>by
  unfold put;split
  .rw[List.eraseP_cons_of_neg (by rw[h z (Bc ..)];simp),SJ c fun x e=>h x (Au _ e)]
  .rw[List.eraseP_cons_of_pos c]
theorem AKE(a:α):∀l:List α,l.Sublist (put lt a l)
 | []=>List.nil_sublist _|z::l=>by
  unfold put;split
  .exact(AKE a l).cons_cons z
  .exact List.sublist_cons_self ..
theorem ADa{p:α->Bool}{l:List α}{k:Nat}(a:k<l.length)(e:l.eraseP p=l.take k++l.drop (k+1)):l.Perm (l[k]::l.eraseP p):=by
 grind[DR,List.take_append_drop,List.perm_middle]
theorem set_perm{p:α->Bool}{l:List α}{k:Nat}(c:k<l.length)(e:l.eraseP p=l.take k++l.drop (k+1))(a:α):(l.set k a).Perm (a::l.eraseP p):=by
 rw[e,Et,AW c];exact JS
end
theorem OB.sub{S T:List A7}(h:OB T)(a:S.Sublist T):OB S:=⟨A1 a.length_le h.few,fun p c=>h.pins p (a.subset c),h.ids.sublist a,h.srt.sublist a⟩
theorem AWy{p x:A7}:isP p x=true↔x=p:=by
 unfold isP;obtain⟨a,b⟩:=p;obtain⟨c,d⟩:=x;simp
theorem kF{S:List A7}{p:A7}(h:OB (put ltP p S)):P2 p=true/\OB S/\∀x∈S,isP p x=false:=by
 have c:=h.sub (AKE p S);refine⟨h.pins p (SZ.2 (.inl rfl)),c,fun x e=>?_⟩;cases a:isP p x with
 |false=>rfl|true=>
  rw[AWy]at a;subst a;have:=((Wc (lt:=ltP) x S).pairwise_iff (fun h=>Ne.symm h)).1 h.ids
  grind[List.pairwise_cons]
theorem AKa{S:List A7}{p:A7}(h:OB (put ltP p S)){k:Nat}(c:k<9)(e:p.At.tmod 9=(k:Int)):(put ltP p S).filter (FZ k)=put ltP p (S.filter (FZ k))/\∀i,i<9->i≠k->(put ltP p S).filter (FZ i)=S.filter (FZ i):=by
 have g:Srt ltP S:=(kF h).2.1.srt.imp fun {a b} h=>Ei.qD _ _ h
 grind[Te,Ei,Ja]
theorem AXl{S:List A7}{p:A7}(h:OB (put ltP p S)):Sl (wOf (put ltP p S)) p=(wOf S,true):=by
 grind[kF,ML,AKa,isP,Sl,Dq,lT,AVp,SJ,vP,SZ]
theorem AXm{S:List A7}{p:A7}(h:OB (put ltP p S)):PJ (wOf S) p=(wOf (put ltP p S),true):=by
 obtain⟨a,y,B⟩:=kF h;have g:=(ML a).1.1;obtain⟨k,c,e⟩:=Zy g;obtain⟨j,q⟩:=AKa h c e
 grind[XB,wOf,Int.toNat_natCast,vP,PJ,Dq,lT]
section
variable{p:AM}{ps:List AM}(i:Int)
theorem IZ(h:1<=p.BB/\p.BB<=6):Ik (p::ps) i=(if p.Bk=i then p.BB else 0)+Ik ps i:=by
 rw[UL];unfold pe
 grind[inB]
theorem IF:DG (p::ps) i=(if p.AY=i then 1 else 0)+DG ps i:=by
 rw[Y4];unfold AWJ;simp
theorem Oh(a:p.State≠2):II (p::ps) i=II ps i:=by
 rw[M3];unfold WA;simp[a]
theorem YE(a:p.State=2)(h:1<=p.BB/\p.BB<=6):II (p::ps) i=(if p.AY=i then p.BB else 0)+II ps i:=by
 rw[M3];unfold WA
 grind[inB]
theorem O2(a:p.State≠2):Fo (p::ps) i=Fo ps i:=by
 rw[T8];unfold Lg;simp[a]
theorem SV(a:p.State=2):Fo (p::ps) i=if p.AY=i then put ltP ⟨p.Cq,p.Id⟩ (Fo ps i) else Fo ps i:=by
 grind[T8,Lg]
theorem UB(r:Ae)(now:Int)(a:p.State≠1):Dp r (p::ps) i now=Dp r ps i now:=by
 rw[Rj,ATv a]
theorem Kt{r:Ae}{now:Int}(a:Dn r p now=true)(c:p.State=1):Dp r (p::ps) i now=if p.AY=i then put ltE ⟨Hy r p now,p.Ay,p.Id,p.BB⟩ (Dp r ps i now) else Dp r ps i now:=by
 grind[Rj,ALl]
end
section
variable{r:Ae}{now turn:Int}{ps:List AM}
theorem QU.sub{qs:List AM}(h:QU r now turn ps)(a:qs.Sublist ps):QU r now turn qs:=
 ⟨A1 a.length_le h.few,fun p c=>h.par p (a.subset c),h.ids.sublist a,h.turns.sublist a⟩
theorem QU.set(h:QU r now turn ps){k:Nat}(E:k<ps.length){p:AM}(G:p.Id=ps[k].Id)(y:p.Ay=ps[k].Ay)(H:p.Since=ps[k].Since)(B:Dn r p now=true):QU r now turn (ps.set k p):=by
 have hT:=(h.par _ (Ao E)).2;have g:∀i (hi:i<(ps.set k p).length),(ps.set k p)[i].Id=(ps[i]'(by simpa using hi)).Id/\(ps.set k p)[i].Ay=(ps[i]'(by simpa using hi)).Ay/\(ps.set k p)[i].Since=(ps[i]'(by simpa using hi)).Since:=by
  grind
 refine⟨by simpa using h.few,?_,?_,?_⟩
 .intro q e;rcases List.mem_or_eq_of_mem_set e with e|rfl
  .exact h.par q e
  .exact⟨B,by rw[y];exact hT⟩
 .rw[CV];intro i j hi c a;rw[(g i hi).1,(g j c).1];exact CV.1 h.ids i j _ _ a
 .rw[CV];intro i j hi c a;have:=CV.1 h.turns i j (by simpa using hi) (by simpa using c) a
  grind[Hr]
end
theorem AZp{h:AF}{id:Int}(a:0<=Fv h id):∃k,∃c:k<h.AG.length,Fv h id=(k:Int)/\par h id=h.AG[k]/\(par h id).Id=id/\h.AG.eraseP (fun x=>x.Id==id)=h.AG.take k++h.AG.drop (k+1):=by
 grind[Fv,IU,par]
end Lv.P
