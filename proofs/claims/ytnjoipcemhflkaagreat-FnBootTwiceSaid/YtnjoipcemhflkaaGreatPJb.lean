/- Plain laws about what the program computes. -/
import Derived.Test.YtnjoipcemhflkaaGreatPIb
noncomputable section
set_option linter.unusedVariables false
set_option linter.unusedSimpArgs false
set_option linter.unusedSectionVars false
open Bool renaming and_eq_true->AF,and_false->DK,not_eq_true'->BF
open List renaming filterMap_cons->Ix,filter_cons->Ez,flatten_append->Iy,flatten_cons->Eg,foldl_cons->B0,getElem_mem->Ah,mem_cons->Ag,mem_cons_of_mem->As,mem_cons_self->Bg,pairwise_cons->BV,pairwise_filterMap->FR,pairwise_iff_getElem->CW,perm_middle->KF,set_eq_take_append_cons_drop->FO
open Nat renaming add_assoc->CQ,le_succ->C4,le_trans->Av
namespace Lv.P
open Lv Go
theorem Rr{h:AE}{id:Int}(a:verdict h ⟨5,id,0,0,0,0⟩=0):DD h=true/\0<=Fw h id:=by
 grind[verdict,Ht,KY,Fw]
def ADC(h:AE)(id:Int):AE:=ET (Io h (par h id)) (QP (Io h (par h id)).BB (par h id).Ab)
def MK(h:AE)(id:Int):AE×Int:=
 if verdict h ⟨5,id,0,0,0,0⟩≠0 then (h,verdict h ⟨5,id,0,0,0,0⟩) else (ADC h id,0)
theorem zC{n:Nat}(I:n+3<=1048576){h:AE}(g:Sm n h)(id:Int):AKF h id=some (MK h id)/\Sm (n+3) (MK h id).1:=by
 have j:=g.fit (by omega);unfold AKF MK;rw[Hm j,AB,HJ j,AB];simp only[Bi,bne_iff_ne,ne_eq];by_cases e:verdict h ⟨5,id,0,0,0,0⟩=0
 .obtain⟨E,p0⟩:=Rr e;obtain⟨q,y,H,B,G⟩:=nd E p0;rw[AR (not_not_intro e),AR (not_not_intro e),HI j];simp only[AB,Yu p0 (RJ p0).1,Ce,Kg,Kh,Ki,Kj,J4,Kk,Kl,GK];have a:=AQ9 g (par h id);show bd (iX h (par h id)) _=_/\_;rw[U2 (by omega) g q y B,AB,JQ (by have:=a.todo;omega),AB];have c:=a.mono (C4 (n+2));exact⟨rfl,c.De,c.CM,c.Ds,c.ED,Av (QQ _ _) (by have:=a.todo;omega),c.Fk⟩
 .rw[AW e,AW e];exact⟨rfl,g.mono (by omega)⟩
theorem Tg{h:AE}{id:Int}(a:verdict h ⟨2,id,0,0,0,0⟩=0):DD h=true/\0<=Fw h id:=by
 grind[verdict,Ht]
def Te(h:AE)(k id:Int):AE:=Cj h k ⟨(cbn h k).AY,(cbn h k).Row.eraseP (fun x=>x.Id==id),(cbn h k).By⟩
def cancelled(h:AE)(id:Int):AE:=
 let p:=par h id
 if p.State=2 then gone (ET (dropped h p) (QP (dropped h p).BB p.Ab)) p else gone (Te h p.Ab id) p
def OU(h:AE)(id:Int):AE×Int:=
 if verdict h ⟨2,id,0,0,0,0⟩≠0 then (h,verdict h ⟨2,id,0,0,0,0⟩) else (cancelled h id,0)
theorem AHp{h:AE}(e:Bt h){p:AU}(a:0<=p.Ab)(c:p.Ab<h.AH.length):ACK h p=some (dropped h p):=Yb e a c
theorem AEp{n:Nat}(O:n+1<=1048576){h:AE}(c:Sm n h)(id:Int):bF h id=some (OU h id)/\Sm (n+1) (OU h id).1:=by
 have j:=c.fit (by omega);unfold bF OU;rw[Hm j,AB,HJ j,AB];simp only[Bi,bne_iff_ne,ne_eq];by_cases e:verdict h ⟨2,id,0,0,0,0⟩=0
 .obtain⟨J,p0⟩:=Tg e;obtain⟨y,B,Q,G,L⟩:=nd J p0;rw[AR (not_not_intro e),AR (not_not_intro e),HI j];simp only[AB,Yu p0 (RJ p0).1,Ce,Kg,Kh,Ki,Kj,J4,Kk,Kl,GK,beq_iff_eq,AV];show (if (par h id).State=2 then bd (ACK h (par h id)) _ else bd (at? h.AH (par h id).Ab) _)=_/\_;unfold cancelled;dsimp only;by_cases q:(par h id).State=2
  .rw[AW q,AW q,AHp j y B,AB];have E:=Nu c (par h id);rw[JQ (by have:=E.todo;omega),AB];have a:=E.mono (C4 n);have H:Sm (n+1) (ET (dropped h (par h id)) (QP (dropped h (par h id)).BB (par h id).Ab)):=
    ⟨a.De,a.CM,a.Ds,a.ED,Av (QQ _ _) (by have:=E.todo;omega),a.Fk⟩
   unfold AcH;show bd (SR (ET (dropped h (par h id)) (QP (dropped h (par h id)).BB (par h id).Ab)) (par h id)) _=_/\_;rw[NJ (H.fit O) (by (have:(ET (dropped h (par h id)) (QP (dropped h (par h id)).BB (par h id).Ab)).AH.length=h.AH.length:=by simp[ET,dropped,Cj]);rw[this];exact G),AB];exact⟨rfl,da H _⟩
  .rw[AR q,AR q];simp only[show at? h.AH (par h id).Ab=some (cbn h (par h id).Ab) from Ff y B,show at? h.AH (h.AG.getD (Fw h id).toNat ym).Ab=some (cbn h (par h id).Ab) from Ff y B,AB];have g:=c.cbn (par h id).Ab;show bd (AKL (cbn h (par h id).Ab).Row id) _=_/\_;rw[Ux (by have:=g.row;omega),AB];have I:Sm n (Te h (par h id).Ab id):=c.cab ⟨Av (VH _ _) g.row,g.U3,g.pins⟩;unfold AcH;show bd (SR (Te h (par h id).Ab id) (par h id)) _=_/\_;rw[NJ (I.fit (by omega)) (by (have:(Te h (par h id).Ab id).AH.length=h.AH.length:=by simp[Te,Cj]);rw[this];exact G),AB];exact⟨rfl,(da I _).mono (C4 n)⟩
 .rw[AW e,AW e];exact⟨rfl,c.mono (by omega)⟩
theorem Tf{h:AE}{id:Int}(a:verdict h ⟨4,id,0,0,0,0⟩=0):DD h=true/\0<=Fw h id:=by
 grind[verdict,Ht,KY,Fw]
def PJ(h:AE)(p:AU):AE:=Cj h p.Ab ⟨(l8 (cbn h p.Ab).AY p.BE 0 (-1) 1 0).1,(cbn h p.Ab).Row,(UX (cbn h p.Ab).By ⟨p.C7,p.Id⟩).1⟩
theorem AXI{n:Nat}{h:AE}(c:Sm n h)(p:AU):Sm n (PJ h p):=by
 have a:=c.cbn p.Ab;have e:=AMv a ⟨p.C7,p.Id⟩;exact c.cab ⟨a.row,e.1,e.2⟩
def accepted(h:AE)(id:Int):AE:=
 let p:=par h id
 if 0<=p.Bu then Sl (gone (PJ h p) p) p.Bu p.BE else gone (PJ h p) p
def OP(h:AE)(id:Int):AE×Int:=
 if verdict h ⟨4,id,0,0,0,0⟩≠0 then (h,verdict h ⟨4,id,0,0,0,0⟩) else (accepted h id,0)
theorem ADb(h:AE)(p:AU):(gone h p).AH.length=h.AH.length:=by grind[gone,Cj]
theorem AEn{n:Nat}(O:n+1<=1048576){h:AE}(j:Sm n h)(id:Int):rJ h id=some (OP h id)/\Sm (n+1) (OP h id).1:=by
 have e:=j.fit (by omega);unfold rJ OP;rw[Hm e,AB,HJ e,AB];simp only[Bi,bne_iff_ne,ne_eq];by_cases c:verdict h ⟨4,id,0,0,0,0⟩=0
 .obtain⟨H,p0⟩:=Tf c;obtain⟨q,y,L,B,J⟩:=nd H p0;rw[AR (not_not_intro c),AR (not_not_intro c),HI e];have I:=(e.ED _ (U9 q y)).2;have G:=AXI j (par h id);have E:(PJ h (par h id)).AH.length=h.AH.length:=by simp[PJ,Cj]
  simp only[AB,Yu p0 (RJ p0).1,show at? h.AH (h.AG.getD (Fw h id).toNat ym).Ab=some (cbn h (par h id).Ab) from Ff q y,Ce,Kg,Kh,Ki,Kj,J4,Kk,Kl,GK,oH,Uz I,AV,BQ,ge_iff_le,decide_eq_true_eq];rw[B8 ⟨rfl,⟨by omega,by omega⟩,trivial⟩];show bd (SR (PJ h (par h id)) (par h id)) _=_/\_;rw[NJ (G.fit (by omega)) (by rw[E];exact B),AB];have g:=da G (par h id);unfold accepted iV;dsimp only;by_cases a:0<=(par h id).Bu
  .rw[AW a];show (if 0<=(par h id).Bu then bd (AKC (gone (PJ h (par h id)) (par h id)) (par h id).Bu (par h id).BE) _ else _)=_/\_;rw[AW a,Yc (g.fit (by omega)) a (by rw[ADb,E];exact B),AB];exact⟨rfl,ADS g _ _⟩
  .rw[AR a];show (if 0<=(par h id).Bu then _ else _)=_/\_;rw[AR a];exact⟨rfl,g.mono (C4 n)⟩
 .rw[AW c,AW c];exact⟨rfl,j.mono (by omega)⟩
def LQ(h:AE)(i:Nat):AE:=
 let x:=Cj h i ⟨(cbn h i).AY,Dy h.AQ h.AG i h.Now,(cbn h i).By⟩
 if 0<DS h.AG i then ET x (QP h.BB i) else x
def K0:Nat->Nat->AE->AE|0,_,h=>h|k+1,i,h=>K0 k (i+1) (LQ h i)
theorem tf(h:AE)(i:Nat):(LQ h i).AH.length=h.AH.length:=by grind[LQ,Cj,ET]
theorem oW{n:Nat}{h:AE}(c:Sm n h)(i:Nat):Sm (n+1) (LQ h i):=by
 have e:=c.cbn (i:Int);have g:(Dy h.AQ h.AG (i:Int) h.Now).length<=n:=by
  unfold Dy;rw[JN];exact Av (List.length_filterMap_le _ _) c.CM
 have j:Sm n (Cj h i ⟨(cbn h i).AY,Dy h.AQ h.AG i h.Now,(cbn h i).By⟩):=c.cab ⟨g,e.U3,e.pins⟩;have a:=j.mono (C4 n);unfold LQ;dsimp only;split
 .exact⟨a.De,a.CM,a.Ds,a.ED,Av (QQ _ _) (by have:=c.todo;omega),a.Fk⟩
 .exact a
theorem AVW{n:Nat}{h:AE}(B:Sm n h)(H:n+h.AH.length<=1048576):BD AcP big (0,h)=some (K0 h.AH.length 0 h,0):=by
 generalize a:h.AH.length=len at *;refine(C3 (F:=AcP) (n:=len) (fun i (v:AE)=>((i:Int),v)) (fun i v=>Sm (n+i) v/\v.AH.length=len) (fun i v=>some (K0 (len-i) i v,0)) (by omega) ?_ (v:=h) ⟨B,a⟩).trans (by rw[Nat.sub_zero]);intro L i v ⟨y,c⟩ hi G;have j:=y.fit (by omega);unfold AcP;dsimp only;rw[c];rcases Nat.lt_or_ge i len with g|g
 .have I:=j.De;have E:=j.CM;rw[B9 g,BP,RS (by omega) E,AB,Ff (by omega) (by omega),AB,AB,RP (by omega),AB];have e:K0 (len-i) i v=K0 (len-(i+1)) (i+1) (LQ v i):=by rw[show len-i=(len-(i+1))+1 by omega];rfl
  rw[e];have q:=G (LQ v i) ⟨by have:=oW y i;rw[CQ]at this;exact this,by rw[tf];exact c⟩ g;rw[<-q];unfold Adz LQ;simp only[BQ,gt_iff_lt,AV,Bn g (show len<2 ^ 63 by omega),Int.toNat_natCast,JQ j.todo,AB];split<;>rfl
 .have:i=len:=by omega
  subst this;rw[Cr,Bb,AV,Nat.sub_self];rfl
def zX(h:AE):AE:=K0 h.AH.length 0 ⟨h.AQ,w64 (h.Now+1),h.A0,h.AG,h.AH,h.BB,h.A9⟩
def cJ(h:AE):AE×Int:=
 if verdict h ⟨6,0,0,0,0,0⟩≠0 then (h,verdict h ⟨6,0,0,0,0,0⟩) else (zX h,0)
theorem AEz:∀(k i:Nat) {n:Nat} {h:AE},Sm n h->Sm (n+k) (K0 k i h)|0,_,_,_,a=>a|k+1,i,n,h,a=>by have:=AEz k (i+1) (oW a i);rw[CQ,Nat.add_comm 1 k]at this;exact this
theorem APb{n:Nat}{h:AE}(a:Sm n h)(j:n+h.AH.length<=1048576):AKO h=some (cJ h)/\Sm (n+h.AH.length) (cJ h).1:=by
 have g:=a.fit (by omega);unfold AKO cJ;rw[Hm g,AB,HJ g,AB];simp only[Bi,bne_iff_ne,ne_eq];have e:Sm n ⟨h.AQ,w64 (h.Now+1),h.A0,h.AG,h.AH,h.BB,h.A9⟩:=⟨a.De,a.CM,a.Ds,a.ED,a.todo,a.Fk⟩;by_cases c:verdict h ⟨6,0,0,0,0,0⟩=0
 .rw[AR (not_not_intro c),AR (not_not_intro c),AVW e j];exact⟨rfl,AEz _ _ e⟩
 .rw[AW c,AW c];exact⟨rfl,a.mono (by omega)⟩
def kb(w:Aw)(now:Int):List Int:=(Eu w).filterMap fun p=>if p.At<=now then some p.Id else none
theorem zI{w:Aw}(a:DV w)(now:Int):AKP w now=some ((Eu w).filter fun p=>decide (p.At<=now)):=by
 have hlim:lim=268435456:=rfl;have c:=IF a;unfold AKP;rw[MS a,AB,collect (l:=Eu w) (fun p=>if p.At<=now then some p else none) some c ?_ ?_]
 .congr 1;generalize Eu w=l
  induction l with
  |nil=>rfl|cons p l e=>
   grind
 .grind[Ad1,Ad0,BG,AB,BQ,AV,B8]
 grind[Ad1,AgF,Bb,AV]
theorem AEt{h:AE}(g:Bt h){k:Int}(a:0<=k)(c:k<h.AH.length):AKQ h k=some (kb (cbn h k).By h.Now):=by
 have hlim:lim=268435456:=rfl;have e:=(g.ED _ (U9 a c)).2;have j:=IF e;unfold AKQ;rw[Ff a c,AB];show bd (AKP (cbn h k).By h.Now) _=_;rw[zI e,AB];generalize hD:(Eu (cbn h k).By).filter (fun p=>decide (p.At<=h.Now))=D;have hDl:D.length<=1048576:=by rw[<-hD];exact Av (List.length_filter_le _ _) j
 rw[collect (l:=D) (fun p=>some p.Id) some hDl ?_ ?_]
 .unfold kb;rw[<-hD];congr 1;generalize Eu (cbn h k).By=l
  induction l with
  |nil=>rfl|cons p l q=>
   grind
 .grind[Ad2,BP,BG,AB,B8]
 grind[Ad2,AgG,Bb,AV]
section
variable{α:Type}{lt:α->α->Bool}
theorem YH(a:α):∀l:List α,(put lt a l).Perm (a::l)
 | []=>.refl _|z::l=>by
  unfold put;split
  .exact((YH a l).cons z).trans (.swap a z l)
  .exact .refl _
theorem NX:∀l:List α,(DZ lt l).Perm l| []=>.refl _|a::l=>(YH a _).trans ((NX l).cons a)
def Rc(lt:α->α->Bool)(l:List α):Prop:=l.Pairwise fun a b=>lt a b=true\/lt b a=true
theorem Rc.perm{a c:List α}(h:Rc lt a)(e:a.Perm c):Rc lt c:=(e.pairwise_iff (fun h=>h.symm)).1 h
theorem MR(h:Swo lt){l:List α}(q:Rc lt l):(DZ lt l).Pairwise fun a b=>lt a b=true:=by
 have c:(DZ lt l).Pairwise fun a b=>lt b a=false:=T6 h l
 have e:Rc lt (DZ lt l):=q.perm (NX (lt:=lt) l).symm;exact(c.and e).imp fun {a b} ⟨g,j⟩=>j.resolve_right (by rw[g];simp)
theorem tW(h:Swo lt):∀{g j:List α},(g.Pairwise fun a b=>lt a b=true)->(j.Pairwise fun a b=>lt a b=true)->g.Perm j->g=j
 | [],j,_,_,c=>c.nil_eq|a::g,[],_,_,c=>by cases c.eq_nil
 |a::g,b::j,q,y,c=>by
  rw[BV]at q y;by_cases e:a=b
  .subst e;rw[tW h q.2 y.2 c.cons_inv]
  .have E:a∈j:=(Ag.1 (c.subset (Bg ..))).resolve_left e;have B:b∈g:=(Ag.1 (c.symm.subset (Bg ..))).resolve_left (Ne.symm e);have:=h.uE _ _ (q.1 b B)
   grind
theorem AXJ(h:Swo lt){a c:List α}(e:Rc lt a)(g:a.Perm c):DZ lt a=DZ lt c:=
 tW h (MR h e) (MR h (e.perm g)) ((NX a).trans (g.trans (NX c).symm))
end
structure Uni(ps:List AU):Prop where
 id:ps.Pairwise fun p q=>p.Id≠q.Id
 turn:ps.Pairwise fun p q=>p.A0≠q.A0
theorem Uni.perm{a b:List AU}(h:Uni a)(c:a.Perm b):Uni b:=⟨(c.pairwise_iff (fun h=>Ne.symm h)).1 h.id,(c.pairwise_iff (fun h=>Ne.symm h)).1 h.turn⟩
theorem Uni.tail{p:AU}{b:List AU}(h:Uni (p::b)):Uni b:=⟨(BV.1 h.id).2,(BV.1 h.turn).2⟩
theorem Ql{r:Aa}{now:Int}{p:AU}(a:Dq r p now=true)(c:p.State=1):E4 r p now=(⟨Ip r p now,p.A0,p.Id,p.BE⟩,true):=by
 grind[E4]
theorem bP{r:Aa}{now:Int}{p:AU}(h:¬(Dq r p now=true/\p.State=1)):E4 r p now=(⟨0,0,0,0⟩,false):=by
 unfold E4;rw[AR h]
theorem JO{r:Aa}{c now:Int}{p:AU}{e:Au}(h:Lf r c now p=some e):e=⟨Ip r p now,p.A0,p.Id,p.BE⟩/\Dq r p now=true/\p.State=1/\p.Ab=c:=by
 grind[Lf,Ql,bP]
theorem AN0{r:Aa}{now:Int}{p:AU}(a:Dq r p now=true)(e:p.State=1)(c:Int):Lf r c now p=if p.Ab=c then some ⟨Ip r p now,p.A0,p.Id,p.BE⟩ else none:=by
 unfold Lf;rw[Ql a e];simp
theorem ATg{r:Aa}{c now:Int}{p:AU}(a:p.State≠1):Lf r c now p=none:=by
 grind[Lf,bP]
theorem UE{c:Int}{p:AU}{e:BY}(h:Mj c p=some e):e=⟨p.C7,p.Id⟩/\p.State=2/\p.Ab=c:=by
 grind[Mj]
theorem AP2{ps:List AU}(h:Uni ps)(r:Aa)(c now:Int):Rc ltE (ps.filterMap (Lf r c now)):=by
 unfold Rc;rw[FR];refine h.turn.imp ?_;intro p q j a e b g;obtain⟨rfl,_⟩:=JO e;obtain⟨rfl,_⟩:=JO g
 grind[T7]
theorem AEK{ps qs:List AU}(h:Uni ps)(a:ps.Perm qs)(r:Aa)(c now:Int):Dy r ps c now=Dy r qs c now:=AXJ dg (AP2 h r c now) (a.filterMap _)
theorem Vg{ps qs:List AU}(a:ps.Perm qs)(c:Int):GP ps c=GP qs c:=ma FF dh (a.filterMap _)
theorem TO(r:Aa)(p:AU)(ps:List AU)(c now:Int):Dy r (p::ps) c now=match Lf r c now p with|some e=>put ltE e (Dy r ps c now)|none=>Dy r ps c now:=by
 unfold Dy;rw[Ix];cases Lf r c now p<;>rfl
theorem Vf(p:AU)(ps:List AU)(c:Int):GP (p::ps) c=match Mj c p with|some e=>put ltP e (GP ps c)|none=>GP ps c:=by
 unfold GP;rw[Ix];cases Mj c p<;>rfl
theorem Nx(f:AU->Int)(g:Int->AU->Int)(a:∀n p,g n p=n+f p):∀(l:List AU) (n:Int),l.foldl g n=n+l.foldl g 0| [],n=>by simp|p::l,n=>by rw[B0,B0,Nx f g a l,Nx f g a l (g 0 p),a,a];omega
def Xj(c:Int)(p:AU):Int:=if ((p.State==2)&&((p.Ab==c)&&inB p.BE 1 6))=true then p.BE else 0
def tj(c:Int)(p:AU):Int:=if ((p.Bu==c)&&inB p.BE 1 6)=true then p.BE else 0
def AWB(c:Int)(p:AU):Int:=if (p.Ab==c)=true then 1 else 0
theorem AMD(c n:Int)(p:AU):Uj c n p=n+Xj c p:=by grind[Uj,Xj]
theorem AMq(c n:Int)(p:AU):U5 c n p=n+tj c p:=by grind[U5,tj]
theorem AAW(c n:Int)(p:AU):MX c n p=n+AWB c p:=by grind[MX,AWB]
theorem N1(p:AU)(ps:List AU)(c:Int):JA (p::ps) c=Xj c p+JA ps c:=by
 unfold JA;rw[B0,Nx _ _ (AMD c),AMD];omega
theorem Vr(p:AU)(ps:List AU)(c:Int):Ja (p::ps) c=tj c p+Ja ps c:=by
 unfold Ja;rw[B0,Nx _ _ (AMq c),AMq];omega
theorem av(p:AU)(ps:List AU)(c:Int):DS (p::ps) c=AWB c p+DS ps c:=by
 unfold DS;rw[B0,Nx _ _ (AAW c),AAW];omega
theorem oR{F:List AU->Int}{f:AU->Int}(hF:∀p l,F (p::l)=f p+F l){a b:List AU}(g:a.Perm b):F a=F b:=by
 induction g with
 |nil=>rfl|cons x _ h=>rw[hF,hF,h]|swap x y l=>rw[hF,hF,hF,hF];omega|trans _ _ c e=>exact c.trans e
theorem AHg{a b:List AU}(e:a.Perm b)(c:Int):JA a c=JA b c:=oR (F:=fun l=>JA l c) (fun p l=>N1 p l c) e
theorem AI1{a b:List AU}(e:a.Perm b)(c:Int):Ja a c=Ja b c:=oR (F:=fun l=>Ja l c) (fun p l=>Vr p l c) e
theorem SC{a b:List AU}(e:a.Perm b)(c:Int):DS a c=DS b c:=oR (F:=fun l=>DS l c) (fun p l=>av p l c) e
theorem AIw{F:List AU->Int}{f:AU->Int}(c:F []=0)(hF:∀p l,F (p::l)=f p+F l)(a:∀p,0<=f p):∀l,0<=F l| []=>by omega|p::l=>by have:=a p;have:=AIw c hF a l;rw[hF];omega
theorem ASp(c:Int)(p:AU):0<=Xj c p:=by
 grind[Xj,CA]
theorem AVX(c:Int)(p:AU):0<=tj c p:=by
 grind[tj,CA]
theorem ADc(l:List AU)(c:Int):0<=JA l c:=AIw (F:=fun l=>JA l c) rfl (fun p l=>N1 p l c) (ASp c) l
theorem AE0(l:List AU)(c:Int):0<=Ja l c:=AIw (F:=fun l=>Ja l c) rfl (fun p l=>Vr p l c) (AVX c) l
def wOf(S:List BY):Aw:=⟨(List.range 9).map fun i=>S.filter (F7 i)⟩
theorem dq(S:List BY):(wOf S).Ar.length=9:=by simp[wOf]
theorem zi(S:List BY){i:Nat}(h:i<(wOf S).Ar.length):(wOf S).Ar[i]=S.filter (F7 i):=by simp[wOf]
theorem AVg(S:List BY){i:Nat}(h:i<9):(wOf S).Ar.getD i []=S.filter (F7 i):=by
 rw[List.getD_eq_getElem?_getD,List.getElem?_eq_getElem (by rw[dq];exact h),Option.getD_some,zi]
theorem zj{S T:List BY}{k:Nat}(a:k<9)(h:∀i,i<9->i≠k->T.filter (F7 i)=S.filter (F7 i)):(⟨(wOf S).Ar.set k (T.filter (F7 k))⟩:Aw)=wOf T:=by
 unfold wOf;congr 1;apply List.ext_getElem
 .simp
 grind
theorem ot:∀{S:List BY},(∀p∈S,1<=p.At)->(wOf S).Ar.flatten.Perm S
 | [],_=>by simp[wOf]|p::S,h=>by
  obtain⟨k,c,e⟩:=cK (h p (Bg ..));have G:=ot (S:=S) fun q E=>h q (As _ E)
  have a:F7 k p=true:=KN.2 e;have j:=zj (S:=S) (T:=p::S) c (by
   intro i hi B;have:F7 i p=false:=by
    grind[F7]
   simp[Ez,this])
  rw[<-j];have g:k<(wOf S).Ar.length:=by rw[dq];exact c
  have y:(p::S).filter (F7 k)=p::(wOf S).Ar[k]:=by rw[zi];simp[Ez,a]
  rw[y];dsimp only;rw[FO,AW g,Iy,Eg,List.cons_append];refine(KF).trans (List.Perm.cons p ?_);rw[<-Eg,<-Iy,<-Dg g,List.take_append_drop];exact G
structure PS(S:List BY):Prop where
 few:S.length<=10
 pins:∀p∈S,RG p=true
 ids:S.Pairwise fun a b=>a.Id≠b.Id
 srt:S.Pairwise fun a b=>ltP a b=true
theorem ou{S:List BY}(h:PS S):Ov (wOf S):=by
 have c:=ot fun p c=>(ND (h.pins p c)).1.1
 refine⟨dq S,by rw[c.length_eq];exact h.few,fun p e=>h.pins p (c.subset e),(c.pairwise_iff (fun h=>Ne.symm h)).2 h.ids,?_,?_⟩
 .grind[wOf,F7]
 .intro i hi k j;have g:(S.filter (F7 i)).Pairwise fun a b=>ltP a b=true:=h.srt.filter _
  grind[zi,List.pairwise_iff_getElem]
theorem AE7{S:List BY}(h:PS S):Eu (wOf S)=S:=by
 have a:=ot fun p a=>(ND (h.pins p a)).1.1
 unfold Eu;rw[AW (EF.2 (ou h)),ma FF dh a,P3 FF h.srt]
theorem AZJ{w:Aw}(a:G2 w=true):w=wOf (Eu w):=by
 unfold Eu;rw[AW a];exact ag (EF.1 a)
structure Vw(r:Aa)(ps:List AU)(now:Int)(i:Nat)(c:Ae):Prop where
 row:c.Row=Dy r ps i now
 Gr:c.By=wOf (GP ps i)
 total:c.AY.Total=r.AY.getD i 0
 held:c.AY.FA=JA ps i
 JG:c.AY.F8=Ja ps i
 led:Ed c.AY=true
 room:DS ps i<=r.Room
structure QZ(r:Aa)(now turn:Int)(ps:List AU):Prop where
 few:ps.length<=40
 par:∀p∈ps,Dq r p now=true/\p.A0<turn
 ids:ps.Pairwise fun p q=>p.Id<q.Id
 turns:ps.Pairwise fun p q=>Ic p q=false
structure RH(h:AE):Prop where
 rules:Dz h.AQ=true
 now:0<=h.Now/\h.Now<=1000000
 turn:1<=h.A0/\h.A0<=1000001
 Ds:h.AH.length=h.AQ.AY.length
 IE:QZ h.AQ h.Now h.A0 h.AG
 cab:∀i (hi:i<h.AH.length),Vw h.AQ h.AG h.Now i h.AH[i]
 todo:HW h.BB h.AH.length=true
 Fk:JX h.A9 h.AH.length=true
 PE:(h.A9.length:Int)=h.AQ.Cu
theorem AFP(p q:AU):Ic p q=Ic q p:=by
 grind[Ic]
theorem AQG{p q:AU}(h:Ic p q=false):p.A0≠q.A0:=by
 grind[Ic]
theorem QZ.uni{r:Aa}{now turn:Int}{ps:List AU}(h:QZ r now turn ps):Uni ps:=⟨h.ids.imp fun h=>by omega,h.turns.imp fun h=>AQG h⟩
theorem mj:Swo Kt:=⟨fun a b h=>by unfold Kt at *;simp only[decide_eq_true_eq,decide_eq_false_iff_not]at *;omega,fun a b c h=>by unfold Kt at *;simp only[decide_eq_true_eq]at *;omega⟩
theorem bu{h:AE}:Ku h=true↔(∀p∈h.AG,Dq h.AQ p h.Now=true/\p.A0<h.A0)/\(h.AG.Pairwise fun p q=>p.Id<q.Id)/\h.AG.Pairwise fun p q=>Ic p q=false:=by
 have a:∀i (hi:i<h.AG.length),bt h i=true↔Dq h.AQ h.AG[i] h.Now=true/\h.AG[i].A0<h.A0/\(∀j (c:j<h.AG.length),j+1=i->h.AG[j].Id<h.AG[i].Id)/\∀j (c:j<i),Ic h.AG[j] h.AG[i]=false:=by
  grind[bt,CO,JY]
 grind[Ku,JY,List.mem_iff_getElem,Nj,Kt,mj,List.pairwise_iff_getElem]
theorem ATA{r:Aa}{p:AU}{now:Int}(h:Dq r p now=true):0<=Ip r p now/\Ip r p now<=4:=by
 have c:=E2 h;have j:=CI c.1;have a:=sZ r p.DJ (w64 (now-p.Since));unfold Ip;rw[AW h];refine⟨a,?_⟩;unfold aA;rw[A2 (n:=now-p.Since) (by omega) (by omega)];have e:0<=(now-p.Since).tdiv r.CE:=Int.tdiv_nonneg (by omega) (by omega);have g:(now-p.Since).tdiv r.CE<=now-p.Since:=by rw[Int.tdiv_eq_ediv_of_nonneg (by omega)];exact Int.ediv_le_self _ (by omega)
 grind[A2]
theorem N7{r:Aa}{ps:List AU}{c now:Int}{e:Au}(h:e∈Dy r ps c now):∃p∈ps,Lf r c now p=some e:=by
 grind[Dy,P4]
theorem si{ps:List AU}{c:Int}{e:BY}(h:e∈GP ps c):∃p∈ps,Mj c p=some e:=by
 grind[GP,P4]
theorem AIb{r:Aa}{ps:List AU}(h:Uni ps)(c now:Int):(Dy r ps c now).Pairwise fun a b=>a.Id≠b.Id:=by
 refine((NX _).pairwise_iff (fun h=>Ne.symm h)).2 ?_;rw[FR];refine h.id.imp ?_;intro p q e a g b j;obtain⟨rfl,_⟩:=JO g;obtain⟨rfl,_⟩:=JO j;exact e
theorem RM(r:Aa)(ps:List AU)(c now:Int):((Dy r ps c now).length:Int)<=DS ps c:=by
 unfold Dy;rw[JN];exact dV _ c (by intro p h;unfold Lf;rw[h,DK];rfl) ps
theorem ANw(ps:List AU)(c:Int):((GP ps c).length:Int)<=DS ps c:=by
 unfold GP;rw[JN];exact dV _ c (by intro p h;unfold Mj;rw[h,DK];rfl) ps
theorem AEL{r:Aa}{ps:List AU}{now turn:Int}(y:QZ r now turn ps){c:Int}(J:DS ps c<=10):Kw (Dy r ps c now)=true:=by
 have L:=y.uni;have I:=RM r ps c now;unfold Kw;rw[AF,JY];refine⟨by simp;omega,?_⟩;intro k g;unfold qAt;rw[CO g];obtain⟨p,B,j⟩:=N7 (Ah g);obtain⟨h,e,G,H⟩:=JO j;have q:=ATA e;have a:=E2 e;have E:=CI a.1;simp only[AF,BF,decide_eq_false_iff_not];refine⟨?_,?_,?_⟩
 .rw[h];unfold AQ7;simp only[AF,CA];omega
 .grind[CO,Dy,List.pairwise_iff_getElem,MR,dg,AP2]
 .have:atF (fun x:Au=>x.Id==(Dy r ps c now)[k].Id) ((Dy r ps c now).take k) 0<0:=by
   rw[eC]
   grind[List.mem_iff_getElem,List.pairwise_iff_getElem,AIb]
  omega
theorem YE{r:Aa}{ps:List AU}{now turn:Int}(B:QZ r now turn ps){c:Int}(Q:DS ps c<=10):PS (GP ps c):=by
 have O:=ANw ps c;have g:(ps.filterMap (Mj c)).Pairwise fun a b=>a.Id≠b.Id:=by
  rw[FR];refine B.uni.id.imp ?_;intro p q j a E b G;obtain⟨rfl,_⟩:=UE E;obtain⟨rfl,_⟩:=UE G;exact j
 refine⟨by omega,?_,((NX _).pairwise_iff (fun h=>Ne.symm h)).2 g,MR FF (g.imp ?_)⟩
 .intro e H;obtain⟨p,y,I⟩:=si H;obtain⟨rfl,J,_⟩:=UE I;have L:=E2 (B.par p y).1
  grind[CI,RG,CA]
 grind[ltP]
theorem GW{h:AE}:DD h=true↔RH h:=by
 constructor
 .intro Y;obtain⟨G,H,I,J,L,O,Q,S,X,q⟩:=JL Y;obtain⟨y,B,E⟩:=bu.1 O;refine⟨G,H,I,L,⟨J,y,B,E⟩,?_,Q,S,X⟩;intro i hi;have j:i<h.AQ.AY.length:=by omega
  have c:=JY.1 q i hi;unfold WB at c;rw[CO hi,CO j]at c;unfold Jv LR at c;simp only[AF,beq_iff_eq,BF,decide_eq_false_iff_not,Hs dT,Hs dU]at c;obtain⟨k1,⟨⟨l1,k3,k4⟩,k5,k6,k7,k8⟩,k9⟩:=c;refine⟨k5,?_,?_,k7,k8,l1,by omega⟩
  .rw[<-k6];exact AZJ k4
  .rw[k1];simp[List.getD,j]
 .intro hR;unfold DD;have Z:=CI hR.rules;simp only[AF,CA,BF,decide_eq_false_iff_not,beq_iff_eq];refine⟨hR.rules,hR.now,hR.turn,by have:=hR.IE.few;omega,by rw[hR.Ds],bu.2 ⟨hR.IE.par,hR.IE.ids,hR.IE.turns⟩,⟨hR.todo,hR.Fk,hR.PE⟩,?_⟩;unfold M6;rw[JY];intro i hi;have j:i<h.AQ.AY.length:=by have:=hR.Ds;omega
  have a:=hR.cab i hi;have g:DS h.AG i<=10:=by have:=a.room;omega
  have e:=YE hR.IE g;unfold WB Jv LR;rw[CO hi,CO j];simp only[AF,beq_iff_eq,BF,decide_eq_false_iff_not,Hs dT,Hs dU];refine⟨?_,⟨⟨a.led,?_,?_⟩,a.row,?_,a.held,a.JG⟩,by have:=a.room;omega⟩
  .rw[a.total];simp[List.getD,j]
  .rw[a.row];exact AEL hR.IE g
  .rw[a.Gr];exact EF.2 (ou e)
  .rw[a.Gr];exact AE7 e
theorem Fs{l:BI}:Ed l=true↔(1<=l.Total/\l.Total<=60)/\(0<=l.Dv/\l.Dv<=l.Total)/\(0<=l.FA/\l.FA<=l.Total)/\(0<=l.Fm/\l.Fm<=l.Total)/\l.Dv+l.FA+l.Fm=l.Total/\0<=l.F8/\l.F8<=l.Fm:=by
 grind[Ed,CA,A2]
theorem sT{l:BI}(q:Ed l=true){n a b c d:Int}(J:0<=n/\n<=60)(e:a = -1\/a=0\/a=1)(g:b = -1\/b=0\/b=1)(h:c = -1\/c=0\/c=1)(j:d = -1\/d=0\/d=1)
 (H:Ed ⟨l.Total,l.Dv+a*n,l.FA+b*n,l.Fm+c*n,l.F8+d*n⟩=true):l8 l n a b c d=(⟨l.Total,l.Dv+a*n,l.FA+b*n,l.Fm+c*n,l.F8+d*n⟩,true):=by
 have I:=Fs.1 q;have w:∀a x:Int,(a = -1\/a=0\/a=1)->0<=x->x<=60->w64 (x+w64 (a*n))=x+a*n:=by
  grind[A2]
 have y:=w a l.Dv e (by omega) (by omega);have B:=w b l.FA g (by omega) (by omega);have E:=w c l.Fm h (by omega) (by omega);have G:=w d l.F8 j (by omega) (by omega);unfold l8
 grind[CA]
section
variable{α:Type}{lt:α->α->Bool}
theorem Pv{p:α->Bool}{a:α}(c:p a=true):∀{l:List α},(∀x∈l,p x=false)->(put lt a l).eraseP p=l
 | [],_=>by simp[put,c]|z::l,h=>by
  unfold put;split
  .rw[List.eraseP_cons_of_neg (by rw[h z (Bg ..)];simp),Pv c fun x e=>h x (As _ e)]
  .rw[List.eraseP_cons_of_pos c]
theorem AMZ(a:α):∀l:List α,l.Sublist (put lt a l)
 | []=>List.nil_sublist _|z::l=>by
  unfold put;split
  .exact(AMZ a l).cons_cons z
  .exact List.sublist_cons_self ..
theorem AFW{p:α->Bool}{l:List α}{k:Nat}(a:k<l.length)(e:l.eraseP p=l.take k++l.drop (k+1)):l.Perm (l[k]::l.eraseP p):=by
 grind[Dg,List.take_append_drop,List.perm_middle]
theorem set_perm{p:α->Bool}{l:List α}{k:Nat}(c:k<l.length)(e:l.eraseP p=l.take k++l.drop (k+1))(a:α):(l.set k a).Perm (a::l.eraseP p):=by
 rw[e,FO,AW c];exact KF
end
theorem PS.sub{S T:List BY}(h:PS T)(a:S.Sublist T):PS S:=⟨Av a.length_le h.few,fun p c=>h.pins p (a.subset c),h.ids.sublist a,h.srt.sublist a⟩
theorem AWf{p x:BY}:isP p x=true↔x=p:=by
 unfold isP;obtain⟨a,b⟩:=p;obtain⟨c,d⟩:=x;simp
theorem nL{S:List BY}{p:BY}(h:PS (put ltP p S)):RG p=true/\PS S/\∀x∈S,isP p x=false:=by
 have c:=h.sub (AMZ p S);refine⟨h.pins p (UH.2 (.inl rfl)),c,fun x e=>?_⟩;cases a:isP p x with
 |false=>rfl|true=>
  rw[AWf]at a;subst a;have:=((YH (lt:=ltP) x S).pairwise_iff (fun h=>Ne.symm h)).1 h.ids
  grind[List.pairwise_cons]
theorem AMu{S:List BY}{p:BY}(h:PS (put ltP p S)){k:Nat}(c:k<9)(e:p.At.tmod 9=(k:Int)):(put ltP p S).filter (F7 k)=put ltP p (S.filter (F7 k))/\∀i,i<9->i≠k->(put ltP p S).filter (F7 i)=S.filter (F7 i):=by
 have g:Srt ltP S:=(nL h).2.1.srt.imp fun {a b} h=>FF.uE _ _ h
 grind[VJ,FF,KN]
theorem AXR{S:List BY}{p:BY}(h:PS (put ltP p S)):UX (wOf (put ltP p S)) p=(wOf S,true):=by
 grind[nL,ND,AMu,isP,UX,EF,ou,AVg,Pv,zj,UH]
theorem AXS{S:List BY}{p:BY}(h:PS (put ltP p S)):QV (wOf S) p=(wOf (put ltP p S),true):=by
 obtain⟨a,y,B⟩:=nL h;have g:=(ND a).1.1;obtain⟨k,c,e⟩:=cK g;obtain⟨j,q⟩:=AMu h c e
 grind[Yp,wOf,Int.toNat_natCast,zj,QV,EF,ou]
section
variable{p:AU}{ps:List AU}(i:Int)
theorem IX(h:1<=p.BE/\p.BE<=6):Ja (p::ps) i=(if p.Bu=i then p.BE else 0)+Ja ps i:=by
 rw[Vr];unfold tj
 grind[inB]
theorem H5:DS (p::ps) i=(if p.Ab=i then 1 else 0)+DS ps i:=by
 rw[av];unfold AWB;simp
theorem NQ(a:p.State≠2):JA (p::ps) i=JA ps i:=by
 rw[N1];unfold Xj;simp[a]
theorem Zt(a:p.State=2)(h:1<=p.BE/\p.BE<=6):JA (p::ps) i=(if p.Ab=i then p.BE else 0)+JA ps i:=by
 rw[N1];unfold Xj
 grind[inB]
theorem NV(a:p.State≠2):GP (p::ps) i=GP ps i:=by
 rw[Vf];unfold Mj;simp[a]
theorem UD(a:p.State=2):GP (p::ps) i=if p.Ab=i then put ltP ⟨p.C7,p.Id⟩ (GP ps i) else GP ps i:=by
 grind[Vf,Mj]
theorem Vi(r:Aa)(now:Int)(a:p.State≠1):Dy r (p::ps) i now=Dy r ps i now:=by
 rw[TO,ATg a]
theorem J9{r:Aa}{now:Int}(a:Dq r p now=true)(c:p.State=1):Dy r (p::ps) i now=if p.Ab=i then put ltE ⟨Ip r p now,p.A0,p.Id,p.BE⟩ (Dy r ps i now) else Dy r ps i now:=by
 grind[TO,AN0]
end
section
variable{r:Aa}{now turn:Int}{ps:List AU}
theorem QZ.sub{qs:List AU}(h:QZ r now turn ps)(a:qs.Sublist ps):QZ r now turn qs:=
 ⟨Av a.length_le h.few,fun p c=>h.par p (a.subset c),h.ids.sublist a,h.turns.sublist a⟩
theorem QZ.set(h:QZ r now turn ps){k:Nat}(E:k<ps.length){p:AU}(G:p.Id=ps[k].Id)(y:p.A0=ps[k].A0)(H:p.Since=ps[k].Since)(B:Dq r p now=true):QZ r now turn (ps.set k p):=by
 have hT:=(h.par _ (Ah E)).2;have g:∀i (hi:i<(ps.set k p).length),(ps.set k p)[i].Id=(ps[i]'(by simpa using hi)).Id/\(ps.set k p)[i].A0=(ps[i]'(by simpa using hi)).A0/\(ps.set k p)[i].Since=(ps[i]'(by simpa using hi)).Since:=by
  grind
 refine⟨by simpa using h.few,?_,?_,?_⟩
 .intro q e;rcases List.mem_or_eq_of_mem_set e with e|rfl
  .exact h.par q e
  .exact⟨B,by rw[y];exact hT⟩
 .rw[CW];intro i j hi c a;rw[(g i hi).1,(g j c).1];exact CW.1 h.ids i j _ _ a
 .rw[CW];intro i j hi c a;have:=CW.1 h.turns i j (by simpa using hi) (by simpa using c) a
  grind[Ic]
end
theorem AY2{h:AE}{id:Int}(a:0<=Fw h id):∃k,∃c:k<h.AG.length,Fw h id=(k:Int)/\par h id=h.AG[k]/\(par h id).Id=id/\h.AG.eraseP (fun x=>x.Id==id)=h.AG.take k++h.AG.drop (k+1):=by
 grind[Fw,JJ,par]
end Lv.P
