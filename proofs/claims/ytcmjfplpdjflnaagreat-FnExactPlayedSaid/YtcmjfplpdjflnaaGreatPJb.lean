/- Plain laws about what the program computes. -/
import Derived.Test.YtcmjfplpdjflnaaGreatPIb
noncomputable section
set_option linter.unusedVariables false
set_option linter.unusedSimpArgs false
set_option linter.unusedSectionVars false
open Bool renaming and_eq_true->AF,and_false->C8,not_eq_true'->BG
open List renaming filterMap_cons->IL,filter_cons->ER,flatten_append->IM,flatten_cons->ED,foldl_cons->Bw,getElem_mem->Au,mem_cons->Ap,mem_cons_of_mem->Av,mem_cons_self->Bc,pairwise_cons->BU,pairwise_filterMap->Ez,pairwise_iff_getElem->CW,perm_middle->Jd,set_eq_take_append_cons_drop->Ev
open Nat renaming add_assoc->CR,le_succ->C2,le_trans->Aw
namespace Lv.P
open Lv Go
theorem Qg{h:AE}{id:Int}(a:verdict h ⟨5,id,0,0,0,0⟩=0):D8 h=true/\0<=F4 h id:=by
 grind[verdict,HT,Jw,F4]
def AOO(h:AE)(id:Int):AE:=El (IA h (par h id)) (Qp (IA h (par h id)).BF (par h id).AY)
def M1(h:AE)(id:Int):AE×Int:=
 if verdict h ⟨5,id,0,0,0,0⟩≠0 then (h,verdict h ⟨5,id,0,0,0,0⟩) else (AOO h id,0)
theorem uM{n:Nat}(I:n+3<=1048576){h:AE}(g:Sm n h)(id:Int):AHt h id=some (M1 h id)/\Sm (n+3) (M1 h id).1:=by
 have j:=g.fit (by omega);unfold AHt M1;rw[HN j,AB,Gr j,AB];simp only[B7,bne_iff_ne,ne_eq];by_cases e:verdict h ⟨5,id,0,0,0,0⟩=0
 .obtain⟨E,p0⟩:=Qg e;obtain⟨q,y,H,B,G⟩:=jh E p0;rw[AU (not_not_intro e),AU (not_not_intro e),Gq j];simp only[AB,XA p0 (QI p0).1,Ce,Ki,Kj,Kk,Kl,J4,Km,Kn,Fq];have a:=AOb g (par h id);show bd (mo h (par h id)) _=_/\_;rw[TZ (by omega) g q y B,AB,Iq (by have:=a.todo;omega),AB];have c:=a.mono (C2 (n+2));exact⟨rfl,c.Dw,c.CP,c.EU,c.D1,Aw (PR _ _) (by have:=a.todo;omega),c.GM⟩
 .rw[AX e,AX e];exact⟨rfl,g.mono (by omega)⟩
theorem SE{h:AE}{id:Int}(a:verdict h ⟨2,id,0,0,0,0⟩=0):D8 h=true/\0<=F4 h id:=by
 grind[verdict,HT]
def kM(h:AE)(k id:Int):AE:=Cu h k ⟨(cbn h k).AW,(cbn h k).Row.eraseP (fun x=>x.Id==id),(cbn h k).Bq⟩
def cancelled(h:AE)(id:Int):AE:=
 let p:=par h id
 if p.State=2 then gone (El (dropped h p) (Qp (dropped h p).BF p.AY)) p else gone (kM h p.AY id) p
def Pf(h:AE)(id:Int):AE×Int:=
 if verdict h ⟨2,id,0,0,0,0⟩≠0 then (h,verdict h ⟨2,id,0,0,0,0⟩) else (cancelled h id,0)
theorem AEm{h:AE}(e:B0 h){p:AN}(a:0<=p.AY)(c:p.AY<h.AH.length):dt h p=some (dropped h p):=Wp e a c
theorem ACT{n:Nat}(O:n+1<=1048576){h:AE}(c:Sm n h)(id:Int):AHo h id=some (Pf h id)/\Sm (n+1) (Pf h id).1:=by
 have j:=c.fit (by omega);unfold AHo Pf;rw[HN j,AB,Gr j,AB];simp only[B7,bne_iff_ne,ne_eq];by_cases e:verdict h ⟨2,id,0,0,0,0⟩=0
 .obtain⟨J,p0⟩:=SE e;obtain⟨y,B,Q,G,L⟩:=jh J p0;rw[AU (not_not_intro e),AU (not_not_intro e),Gq j];simp only[AB,XA p0 (QI p0).1,Ce,Ki,Kj,Kk,Kl,J4,Km,Kn,Fq,beq_iff_eq,AV];show (if (par h id).State=2 then bd (dt h (par h id)) _ else bd (at? h.AH (par h id).AY) _)=_/\_;unfold cancelled;dsimp only;by_cases q:(par h id).State=2
  .rw[AX q,AX q,AEm j y B,AB];have E:=M3 c (par h id);rw[Iq (by have:=E.todo;omega),AB];have a:=E.mono (C2 n);have H:Sm (n+1) (El (dropped h (par h id)) (Qp (dropped h (par h id)).BF (par h id).AY)):=
    ⟨a.Dw,a.CP,a.EU,a.D1,Aw (PR _ _) (by have:=E.todo;omega),a.GM⟩
   unfold VX;show bd (TF (El (dropped h (par h id)) (Qp (dropped h (par h id)).BF (par h id).AY)) (par h id)) _=_/\_;rw[MW (H.fit O) (by (have:(El (dropped h (par h id)) (Qp (dropped h (par h id)).BF (par h id).AY)).AH.length=h.AH.length:=by simp[El,dropped,Cu]);rw[this];exact G),AB];exact⟨rfl,aO H _⟩
  .rw[AU q,AU q];simp only[show at? h.AH (par h id).AY=some (cbn h (par h id).AY) from FG y B,show at? h.AH (h.AG.getD (F4 h id).toNat tk).AY=some (cbn h (par h id).AY) from FG y B,AB];have g:=c.cbn (par h id).AY;show bd (du (cbn h (par h id).AY).Row id) _=_/\_;rw[TU (by have:=g.row;omega),AB];have I:Sm n (kM h (par h id).AY id):=c.cab ⟨Aw (To _ _) g.row,g.Ta,g.pins⟩;unfold VX;show bd (TF (kM h (par h id).AY id) (par h id)) _=_/\_;rw[MW (I.fit (by omega)) (by (have:(kM h (par h id).AY id).AH.length=h.AH.length:=by simp[kM,Cu]);rw[this];exact G),AB];exact⟨rfl,(aO I _).mono (C2 n)⟩
 .rw[AX e,AX e];exact⟨rfl,c.mono (by omega)⟩
theorem SD{h:AE}{id:Int}(a:verdict h ⟨4,id,0,0,0,0⟩=0):D8 h=true/\0<=F4 h id:=by
 grind[verdict,HT,Jw,F4]
def Wk(h:AE)(p:AN):AE:=Cu h p.AY ⟨(l8 (cbn h p.AY).AW p.BA 0 (-1) 1 0).1,(cbn h p.AY).Row,(S6 (cbn h p.AY).Bq ⟨p.Cq,p.Id⟩).1⟩
theorem AWy{n:Nat}{h:AE}(c:Sm n h)(p:AN):Sm n (Wk h p):=by
 have a:=c.cbn p.AY;have e:=AJ6 a ⟨p.Cq,p.Id⟩;exact c.cab ⟨a.row,e.1,e.2⟩
def accepted(h:AE)(id:Int):AE:=
 let p:=par h id
 if 0<=p.Bi then TH (gone (Wk h p) p) p.Bi p.BA else gone (Wk h p) p
def PY(h:AE)(id:Int):AE×Int:=
 if verdict h ⟨4,id,0,0,0,0⟩≠0 then (h,verdict h ⟨4,id,0,0,0,0⟩) else (accepted h id,0)
theorem AR9(h:AE)(p:AN):(gone h p).AH.length=h.AH.length:=by grind[gone,Cu]
theorem ACR{n:Nat}(O:n+1<=1048576){h:AE}(j:Sm n h)(id:Int):AHs h id=some (PY h id)/\Sm (n+1) (PY h id).1:=by
 have e:=j.fit (by omega);unfold AHs PY;rw[HN e,AB,Gr e,AB];simp only[B7,bne_iff_ne,ne_eq];by_cases c:verdict h ⟨4,id,0,0,0,0⟩=0
 .obtain⟨H,p0⟩:=SD c;obtain⟨q,y,L,B,J⟩:=jh H p0;rw[AU (not_not_intro c),AU (not_not_intro c),Gq e];have I:=(e.D1 _ (Tg q y)).2;have G:=AWy j (par h id);have E:(Wk h (par h id)).AH.length=h.AH.length:=by simp[Wk,Cu]
  simp only[AB,XA p0 (QI p0).1,show at? h.AH (h.AG.getD (F4 h id).toNat tk).AY=some (cbn h (par h id).AY) from FG q y,Ce,Ki,Kj,Kk,Kl,J4,Km,Kn,Fq,j6,TW I,AV,BQ,ge_iff_le,decide_eq_true_eq];rw[B8 ⟨rfl,⟨by omega,by omega⟩,trivial⟩];show bd (TF (Wk h (par h id)) (par h id)) _=_/\_;rw[MW (G.fit (by omega)) (by rw[E];exact B),AB];have g:=aO G (par h id);unfold accepted eT;dsimp only;by_cases a:0<=(par h id).Bi
  .rw[AX a];show (if 0<=(par h id).Bi then bd (mn (gone (Wk h (par h id)) (par h id)) (par h id).Bi (par h id).BA) _ else _)=_/\_;rw[AX a,Wq (g.fit (by omega)) a (by rw[AR9,E];exact B),AB];exact⟨rfl,AA7 g _ _⟩
  .rw[AU a];show (if 0<=(par h id).Bi then _ else _)=_/\_;rw[AU a];exact⟨rfl,g.mono (C2 n)⟩
 .rw[AX c,AX c];exact⟨rfl,j.mono (by omega)⟩
def PQ(h:AE)(i:Nat):AE:=
 let x:=Cu h i ⟨(cbn h i).AW,Dq h.AQ h.AG i h.Now,(cbn h i).Bq⟩
 if 0<DF h.AG i then El x (Qp h.BF i) else x
def Ns:Nat->Nat->AE->AE|0,_,h=>h|k+1,i,h=>Ns k (i+1) (PQ h i)
theorem oS(h:AE)(i:Nat):(PQ h i).AH.length=h.AH.length:=by grind[PQ,Cu,El]
theorem kJ{n:Nat}{h:AE}(c:Sm n h)(i:Nat):Sm (n+1) (PQ h i):=by
 have e:=c.cbn (i:Int);have g:(Dq h.AQ h.AG (i:Int) h.Now).length<=n:=by
  unfold Dq;rw[Im];exact Aw (List.length_filterMap_le _ _) c.CP
 have j:Sm n (Cu h i ⟨(cbn h i).AW,Dq h.AQ h.AG i h.Now,(cbn h i).Bq⟩):=c.cab ⟨g,e.Ta,e.pins⟩;have a:=j.mono (C2 n);unfold PQ;dsimp only;split
 .exact⟨a.Dw,a.CP,a.EU,a.D1,Aw (PR _ _) (by have:=c.todo;omega),a.GM⟩
 .exact a
theorem AU1{n:Nat}{h:AE}(B:Sm n h)(H:n+h.AH.length<=1048576):A3 VZ big (0,h)=some (Ns h.AH.length 0 h,0):=by
 generalize a:h.AH.length=len at *;refine(C1 (F:=VZ) (n:=len) (fun i (v:AE)=>((i:Int),v)) (fun i v=>Sm (n+i) v/\v.AH.length=len) (fun i v=>some (Ns (len-i) i v,0)) (by omega) ?_ (v:=h) ⟨B,a⟩).trans (by rw[Nat.sub_zero]);intro L i v ⟨y,c⟩ hi G;have j:=y.fit (by omega);unfold VZ;dsimp only;rw[c];rcases Nat.lt_or_ge i len with g|g
 .have I:=j.Dw;have E:=j.CP;rw[B4 g,BK,QQ (by omega) E,AB,FG (by omega) (by omega),AB,AB,QN (by omega),AB];have e:Ns (len-i) i v=Ns (len-(i+1)) (i+1) (PQ v i):=by rw[show len-i=(len-(i+1))+1 by omega];rfl
  rw[e];have q:=G (PQ v i) ⟨by have:=kJ y i;rw[CR]at this;exact this,by rw[oS];exact c⟩ g;rw[<-q];unfold eU PQ;simp only[BQ,gt_iff_lt,AV,Bt g (show len<2 ^ 63 by omega),Int.toNat_natCast,Iq j.todo,AB];split<;>rfl
 .have:i=len:=by omega
  subst this;rw[C0,BL,AV,Nat.sub_self];rfl
def AY4(h:AE):AE:=Ns h.AH.length 0 ⟨h.AQ,w64 (h.Now+1),h.Az,h.AG,h.AH,h.BF,h.BC⟩
def kK(h:AE):AE×Int:=
 if verdict h ⟨6,0,0,0,0,0⟩≠0 then (h,verdict h ⟨6,0,0,0,0,0⟩) else (AY4 h,0)
theorem ACd:∀(k i:Nat) {n:Nat} {h:AE},Sm n h->Sm (n+k) (Ns k i h)|0,_,_,_,a=>a|k+1,i,n,h,a=>by have:=ACd k (i+1) (kJ a i);rw[CR,Nat.add_comm 1 k]at this;exact this
theorem AM2{n:Nat}{h:AE}(a:Sm n h)(j:n+h.AH.length<=1048576):AHu h=some (kK h)/\Sm (n+h.AH.length) (kK h).1:=by
 have g:=a.fit (by omega);unfold AHu kK;rw[HN g,AB,Gr g,AB];simp only[B7,bne_iff_ne,ne_eq];have e:Sm n ⟨h.AQ,w64 (h.Now+1),h.Az,h.AG,h.AH,h.BF,h.BC⟩:=⟨a.Dw,a.CP,a.EU,a.D1,a.todo,a.GM⟩;by_cases c:verdict h ⟨6,0,0,0,0,0⟩=0
 .rw[AU (not_not_intro c),AU (not_not_intro c),AU1 e j];exact⟨rfl,ACd _ _ e⟩
 .rw[AX c,AX c];exact⟨rfl,a.mono (by omega)⟩
def gm(w:A0)(now:Int):List Int:=(FP w).filterMap fun p=>if p.At<=now then some p.Id else none
theorem uS{w:A0}(a:DW w)(now:Int):zj w now=some ((FP w).filter fun p=>decide (p.At<=now)):=by
 have hlim:lim=268435456:=rfl;have c:=Kz a;unfold zj;rw[Zg a,AB,collect (l:=FP w) (fun p=>if p.At<=now then some p else none) some c ?_ ?_]
 .congr 1;generalize FP w=l
  induction l with
  |nil=>rfl|cons p l e=>
   grind
 .grind[eX,eW,BJ,AB,BQ,AV,B8]
 grind[eX,zk,BL,AV]
theorem ACX{h:AE}(g:B0 h){k:Int}(a:0<=k)(c:k<h.AH.length):AHv h k=some (gm (cbn h k).Bq h.Now):=by
 have hlim:lim=268435456:=rfl;have e:=(g.D1 _ (Tg a c)).2;have j:=Kz e;unfold AHv;rw[FG a c,AB];show bd (zj (cbn h k).Bq h.Now) _=_;rw[uS e,AB];generalize hD:(FP (cbn h k).Bq).filter (fun p=>decide (p.At<=h.Now))=D;have hDl:D.length<=1048576:=by rw[<-hD];exact Aw (List.length_filter_le _ _) j
 rw[collect (l:=D) (fun p=>some p.Id) some hDl ?_ ?_]
 .unfold gm;rw[<-hD];congr 1;generalize FP (cbn h k).Bq=l
  induction l with
  |nil=>rfl|cons p l q=>
   grind
 .grind[eY,BK,BJ,AB,B8]
 grind[eY,zl,BL,AV]
section
variable{α:Type}{lt:α->α->Bool}
theorem WU(a:α):∀l:List α,(put lt a l).Perm (a::l)
 | []=>.refl _|z::l=>by
  unfold put;split
  .exact((WU a l).cons z).trans (.swap a z l)
  .exact .refl _
theorem Mj:∀l:List α,(DK lt l).Perm l| []=>.refl _|a::l=>(WU a _).trans ((Mj l).cons a)
def QX(lt:α->α->Bool)(l:List α):Prop:=l.Pairwise fun a b=>lt a b=true\/lt b a=true
theorem QX.perm{a c:List α}(h:QX lt a)(e:a.Perm c):QX lt c:=(e.pairwise_iff (fun h=>h.symm)).1 h
theorem LV(h:Swo lt){l:List α}(q:QX lt l):(DK lt l).Pairwise fun a b=>lt a b=true:=by
 have c:(DK lt l).Pairwise fun a b=>lt b a=false:=Sb h l
 have e:QX lt (DK lt l):=q.perm (Mj (lt:=lt) l).symm;exact(c.and e).imp fun {a b} ⟨g,j⟩=>j.resolve_right (by rw[g];simp)
theorem oM(h:Swo lt):∀{g j:List α},(g.Pairwise fun a b=>lt a b=true)->(j.Pairwise fun a b=>lt a b=true)->g.Perm j->g=j
 | [],j,_,_,c=>c.nil_eq|a::g,[],_,_,c=>by cases c.eq_nil
 |a::g,b::j,q,y,c=>by
  rw[BU]at q y;by_cases e:a=b
  .subst e;rw[oM h q.2 y.2 c.cons_inv]
  .have E:a∈j:=(Ap.1 (c.subset (Bc ..))).resolve_left e;have B:b∈g:=(Ap.1 (c.symm.subset (Bc ..))).resolve_left (Ne.symm e);have:=h.o9 _ _ (q.1 b B)
   grind
theorem AWz(h:Swo lt){a c:List α}(e:QX lt a)(g:a.Perm c):DK lt a=DK lt c:=
 oM h (LV h e) (LV h (e.perm g)) ((Mj a).trans (g.trans (Mj c).symm))
end
structure Uni(ps:List AN):Prop where
 id:ps.Pairwise fun p q=>p.Id≠q.Id
 turn:ps.Pairwise fun p q=>p.Az≠q.Az
theorem Uni.perm{a b:List AN}(h:Uni a)(c:a.Perm b):Uni b:=⟨(c.pairwise_iff (fun h=>Ne.symm h)).1 h.id,(c.pairwise_iff (fun h=>Ne.symm h)).1 h.turn⟩
theorem Uni.tail{p:AN}{b:List AN}(h:Uni (p::b)):Uni b:=⟨(BU.1 h.id).2,(BU.1 h.turn).2⟩
theorem Pm{r:Aa}{now:Int}{p:AN}(a:Dp r p now=true)(c:p.State=1):EX r p now=(⟨IB r p now,p.Az,p.Id,p.BA⟩,true):=by
 grind[EX]
theorem ZE{r:Aa}{now:Int}{p:AN}(h:¬(Dp r p now=true/\p.State=1)):EX r p now=(⟨0,0,0,0⟩,false):=by
 unfold EX;rw[AU h]
theorem Jn{r:Aa}{c now:Int}{p:AN}{e:Af}(h:K0 r c now p=some e):e=⟨IB r p now,p.Az,p.Id,p.BA⟩/\Dp r p now=true/\p.State=1/\p.AY=c:=by
 grind[K0,Pm,ZE]
theorem ALN{r:Aa}{now:Int}{p:AN}(a:Dp r p now=true)(e:p.State=1)(c:Int):K0 r c now p=if p.AY=c then some ⟨IB r p now,p.Az,p.Id,p.BA⟩ else none:=by
 unfold K0;rw[Pm a e];simp
theorem ATM{r:Aa}{c now:Int}{p:AN}(a:p.State≠1):K0 r c now p=none:=by
 grind[K0,ZE]
theorem Sl{c:Int}{p:AN}{e:BH}(h:Lm c p=some e):e=⟨p.Cq,p.Id⟩/\p.State=2/\p.AY=c:=by
 grind[Lm]
theorem ANP{ps:List AN}(h:Uni ps)(r:Aa)(c now:Int):QX ltE (ps.filterMap (K0 r c now)):=by
 unfold QX;rw[Ez];refine h.turn.imp ?_;intro p q j a e b g;obtain⟨rfl,_⟩:=Jn e;obtain⟨rfl,_⟩:=Jn g
 grind[Sd]
theorem ABy{ps qs:List AN}(h:Uni ps)(a:ps.Perm qs)(r:Aa)(c now:Int):Dq r ps c now=Dq r qs c now:=AWz aR (ANP h r c now) (a.filterMap _)
theorem UD{ps qs:List AN}(a:ps.Perm qs)(c:Int):Fu ps c=Fu qs c:=ie Ei aS (a.filterMap _)
theorem Rx(r:Aa)(p:AN)(ps:List AN)(c now:Int):Dq r (p::ps) c now=match K0 r c now p with|some e=>put ltE e (Dq r ps c now)|none=>Dq r ps c now:=by
 unfold Dq;rw[IL];cases K0 r c now p<;>rfl
theorem UC(p:AN)(ps:List AN)(c:Int):Fu (p::ps) c=match Lm c p with|some e=>put ltP e (Fu ps c)|none=>Fu ps c:=by
 unfold Fu;rw[IL];cases Lm c p<;>rfl
theorem M6(f:AN->Int)(g:Int->AN->Int)(a:∀n p,g n p=n+f p):∀(l:List AN) (n:Int),l.foldl g n=n+l.foldl g 0| [],n=>by simp|p::l,n=>by rw[Bw,Bw,M6 f g a l,M6 f g a l (g 0 p),a,a];omega
def V4(c:Int)(p:AN):Int:=if ((p.State==2)&&((p.AY==c)&&inB p.BA 1 6))=true then p.BA else 0
def oT(c:Int)(p:AN):Int:=if ((p.Bi==c)&&inB p.BA 1 6)=true then p.BA else 0
def AVj(c:Int)(p:AN):Int:=if (p.AY==c)=true then 1 else 0
theorem AJL(c n:Int)(p:AN):TI c n p=n+V4 c p:=by grind[TI,V4]
theorem AJ0(c n:Int)(p:AN):Tb c n p=n+oT c p:=by grind[Tb,oT]
theorem vi(c n:Int)(p:AN):LZ c n p=n+AVj c p:=by grind[LZ,AVj]
theorem M9(p:AN)(ps:List AN)(c:Int):IY (p::ps) c=V4 c p+IY ps c:=by
 unfold IY;rw[Bw,M6 _ _ (AJL c),AJL];omega
theorem UO(p:AN)(ps:List AN)(c:Int):I1 (p::ps) c=oT c p+I1 ps c:=by
 unfold I1;rw[Bw,M6 _ _ (AJ0 c),AJ0];omega
theorem Yz(p:AN)(ps:List AN)(c:Int):DF (p::ps) c=AVj c p+DF ps c:=by
 unfold DF;rw[Bw,M6 _ _ (vi c),vi];omega
theorem kF{F:List AN->Int}{f:AN->Int}(hF:∀p l,F (p::l)=f p+F l){a b:List AN}(g:a.Perm b):F a=F b:=by
 induction g with
 |nil=>rfl|cons x _ h=>rw[hF,hF,h]|swap x y l=>rw[hF,hF,hF,hF];omega|trans _ _ c e=>exact c.trans e
theorem AEb{a b:List AN}(e:a.Perm b)(c:Int):IY a c=IY b c:=kF (F:=fun l=>IY l c) (fun p l=>M9 p l c) e
theorem AFo{a b:List AN}(e:a.Perm b)(c:Int):I1 a c=I1 b c:=kF (F:=fun l=>I1 l c) (fun p l=>UO p l c) e
theorem Qx{a b:List AN}(e:a.Perm b)(c:Int):DF a c=DF b c:=kF (F:=fun l=>DF l c) (fun p l=>Yz p l c) e
theorem AFm{F:List AN->Int}{f:AN->Int}(c:F []=0)(hF:∀p l,F (p::l)=f p+F l)(a:∀p,0<=f p):∀l,0<=F l| []=>by omega|p::l=>by have:=a p;have:=AFm c hF a l;rw[hF];omega
theorem ASS(c:Int)(p:AN):0<=V4 c p:=by
 grind[V4,CQ]
theorem AU2(c:Int)(p:AN):0<=oT c p:=by
 grind[oT,CQ]
theorem ABB(l:List AN)(c:Int):0<=IY l c:=AFm (F:=fun l=>IY l c) rfl (fun p l=>M9 p l c) (ASS c) l
theorem AU3(l:List AN)(c:Int):0<=I1 l c:=AFm (F:=fun l=>I1 l c) rfl (fun p l=>UO p l c) (AU2 c) l
def wOf(S:List BH):A0:=⟨(List.range 9).map fun i=>S.filter (Ff i)⟩
theorem aa(S:List BH):(wOf S).Ao.length=9:=by simp[wOf]
theorem ux(S:List BH){i:Nat}(h:i<(wOf S).Ao.length):(wOf S).Ao[i]=S.filter (Ff i):=by simp[wOf]
theorem AVF(S:List BH){i:Nat}(h:i<9):(wOf S).Ao.getD i []=S.filter (Ff i):=by
 rw[List.getD_eq_getElem?_getD,List.getElem?_eq_getElem (by rw[aa];exact h),Option.getD_some,ux]
theorem uy{S T:List BH}{k:Nat}(a:k<9)(h:∀i,i<9->i≠k->T.filter (Ff i)=S.filter (Ff i)):(⟨(wOf S).Ao.set k (T.filter (Ff k))⟩:A0)=wOf T:=by
 unfold wOf;congr 1;apply List.ext_getElem
 .simp
 grind
theorem kS:∀{S:List BH},(∀p∈S,1<=p.At)->(wOf S).Ao.flatten.Perm S
 | [],_=>by simp[wOf]|p::S,h=>by
  obtain⟨k,c,e⟩:=Zm (h p (Bc ..));have G:=kS (S:=S) fun q E=>h q (Av _ E)
  have a:Ff k p=true:=Jk.2 e;have j:=uy (S:=S) (T:=p::S) c (by
   intro i hi B;have:Ff i p=false:=by
    grind[Ff]
   simp[ER,this])
  rw[<-j];have g:k<(wOf S).Ao.length:=by rw[aa];exact c
  have y:(p::S).filter (Ff k)=p::(wOf S).Ao[k]:=by rw[ux];simp[ER,a]
  rw[y];dsimp only;rw[Ev,AX g,IM,ED,List.cons_append];refine(Jd).trans (List.Perm.cons p ?_);rw[<-ED,<-IM,<-DR g,List.take_append_drop];exact G
structure OL(S:List BH):Prop where
 few:S.length<=10
 pins:∀p∈S,QG p=true
 ids:S.Pairwise fun a b=>a.Id≠b.Id
 srt:S.Pairwise fun a b=>ltP a b=true
theorem kU{S:List BH}(h:OL S):Nv (wOf S):=by
 have c:=kS fun p c=>(MS (h.pins p c)).1.1
 refine⟨aa S,by rw[c.length_eq];exact h.few,fun p e=>h.pins p (c.subset e),(c.pairwise_iff (fun h=>Ne.symm h)).2 h.ids,?_,?_⟩
 .grind[wOf,Ff]
 .intro i hi k j;have g:(S.filter (Ff i)).Pairwise fun a b=>ltP a b=true:=h.srt.filter _
  grind[ux,List.pairwise_iff_getElem]
theorem ACl{S:List BH}(h:OL S):FP (wOf S)=S:=by
 have a:=kS fun p a=>(MS (h.pins p a)).1.1
 unfold FP;rw[AX (Dr.2 (kU h)),ie Ei aS a,Ow Ei h.srt]
theorem AZA{w:A0}(a:H5 w=true):w=wOf (FP w):=by
 unfold FP;rw[AX a];exact Yp (Dr.1 a)
structure W6(r:Aa)(ps:List AN)(now:Int)(i:Nat)(c:Ab):Prop where
 row:c.Row=Dq r ps i now
 G6:c.Bq=wOf (Fu ps i)
 total:c.AW.Total=r.AW.getD i 0
 held:c.AW.Ee=IY ps i
 JY:c.AW.Fx=I1 ps i
 led:Et c.AW=true
 room:DF ps i<=r.Room
structure Qi(r:Aa)(now turn:Int)(ps:List AN):Prop where
 few:ps.length<=40
 par:∀p∈ps,Dp r p now=true/\p.Az<turn
 ids:ps.Pairwise fun p q=>p.Id<q.Id
 turns:ps.Pairwise fun p q=>H3 p q=false
structure RH(h:AE):Prop where
 rules:D4 h.AQ=true
 now:0<=h.Now/\h.Now<=1000000
 turn:1<=h.Az/\h.Az<=1000001
 EU:h.AH.length=h.AQ.AW.length
 KC:Qi h.AQ h.Now h.Az h.AG
 cab:∀i (hi:i<h.AH.length),W6 h.AQ h.AG h.Now i h.AH[i]
 todo:Ig h.BF h.AH.length=true
 GM:MF h.BC h.AH.length=true
 Rq:(h.BC.length:Int)=h.AQ.Cx
theorem AC3(p q:AN):H3 p q=H3 q p:=by
 grind[H3]
theorem ANd{p q:AN}(h:H3 p q=false):p.Az≠q.Az:=by
 grind[H3]
theorem Qi.uni{r:Aa}{now turn:Int}{ps:List AN}(h:Qi r now turn ps):Uni ps:=⟨h.ids.imp fun h=>by omega,h.turns.imp fun h=>ANd h⟩
theorem iy:Swo KA:=⟨fun a b h=>by unfold KA at *;simp only[decide_eq_true_eq,decide_eq_false_iff_not]at *;omega,fun a b c h=>by unfold KA at *;simp only[decide_eq_true_eq]at *;omega⟩
theorem ZV{h:AE}:KD h=true↔(∀p∈h.AG,Dp h.AQ p h.Now=true/\p.Az<h.Az)/\(h.AG.Pairwise fun p q=>p.Id<q.Id)/\h.AG.Pairwise fun p q=>H3 p q=false:=by
 have a:∀i (hi:i<h.AG.length),ZU h i=true↔Dp h.AQ h.AG[i] h.Now=true/\h.AG[i].Az<h.Az/\(∀j (c:j<h.AG.length),j+1=i->h.AG[j].Id<h.AG[i].Id)/\∀j (c:j<i),H3 h.AG[j] h.AG[i]=false:=by
  grind[ZU,CS,Jo]
 grind[KD,Jo,List.mem_iff_getElem,Mv,KA,iy,List.pairwise_iff_getElem]
theorem ASq{r:Aa}{p:AN}{now:Int}(h:Dp r p now=true):0<=IB r p now/\IB r p now<=4:=by
 have c:=E6 h;have j:=CM c.1;have a:=nZ r p.Co (w64 (now-p.Since));unfold IB;rw[AX h];refine⟨a,?_⟩;unfold YQ;rw[Ah (n:=now-p.Since) (by omega) (by omega)];have e:0<=(now-p.Since).tdiv r.CG:=Int.tdiv_nonneg (by omega) (by omega);have g:(now-p.Since).tdiv r.CG<=now-p.Since:=by rw[Int.tdiv_eq_ediv_of_nonneg (by omega)];exact Int.ediv_le_self _ (by omega)
 grind[Ah]
theorem QL{r:Aa}{ps:List AN}{c now:Int}{e:Af}(h:e∈Dq r ps c now):∃p∈ps,K0 r c now p=some e:=by
 grind[Dq,Ox]
theorem nh{ps:List AN}{c:Int}{e:BH}(h:e∈Fu ps c):∃p∈ps,Lm c p=some e:=by
 grind[Fu,Ox]
theorem AFX{r:Aa}{ps:List AN}(h:Uni ps)(c now:Int):(Dq r ps c now).Pairwise fun a b=>a.Id≠b.Id:=by
 refine((Mj _).pairwise_iff (fun h=>Ne.symm h)).2 ?_;rw[Ez];refine h.id.imp ?_;intro p q e a g b j;obtain⟨rfl,_⟩:=Jn g;obtain⟨rfl,_⟩:=Jn j;exact e
theorem QK(r:Aa)(ps:List AN)(c now:Int):((Dq r ps c now).length:Int)<=DF ps c:=by
 unfold Dq;rw[Im];exact aK _ c (by intro p h;unfold K0;rw[h,C8];rfl) ps
theorem ALI(ps:List AN)(c:Int):((Fu ps c).length:Int)<=DF ps c:=by
 unfold Fu;rw[Im];exact aK _ c (by intro p h;unfold Lm;rw[h,C8];rfl) ps
theorem ABz{r:Aa}{ps:List AN}{now turn:Int}(y:Qi r now turn ps){c:Int}(J:DF ps c<=10):KF (Dq r ps c now)=true:=by
 have L:=y.uni;have I:=QK r ps c now;unfold KF;rw[AF,Jo];refine⟨by simp;omega,?_⟩;intro k g;unfold qAt;rw[CS g];obtain⟨p,B,j⟩:=QL (Au g);obtain⟨h,e,G,H⟩:=Jn j;have q:=ASq e;have a:=E6 e;have E:=CM a.1;simp only[AF,BG,decide_eq_false_iff_not];refine⟨?_,?_,?_⟩
 .rw[h];unfold AOW;simp only[AF,CQ];omega
 .grind[CS,Dq,List.pairwise_iff_getElem,LV,aR,ANP]
 .have:atF (fun x:Af=>x.Id==(Dq r ps c now)[k].Id) ((Dq r ps c now).take k) 0<0:=by
   rw[ar]
   grind[List.mem_iff_getElem,List.pairwise_iff_getElem,AFX]
  omega
theorem WS{r:Aa}{ps:List AN}{now turn:Int}(B:Qi r now turn ps){c:Int}(Q:DF ps c<=10):OL (Fu ps c):=by
 have O:=ALI ps c;have g:(ps.filterMap (Lm c)).Pairwise fun a b=>a.Id≠b.Id:=by
  rw[Ez];refine B.uni.id.imp ?_;intro p q j a E b G;obtain⟨rfl,_⟩:=Sl E;obtain⟨rfl,_⟩:=Sl G;exact j
 refine⟨by omega,?_,((Mj _).pairwise_iff (fun h=>Ne.symm h)).2 g,LV Ei (g.imp ?_)⟩
 .intro e H;obtain⟨p,y,I⟩:=nh H;obtain⟨rfl,J,_⟩:=Sl I;have L:=E6 (B.par p y).1
  grind[CM,QG,CQ]
 grind[ltP]
theorem Ji{h:AE}:D8 h=true↔RH h:=by
 constructor
 .intro Y;obtain⟨G,H,I,J,L,O,Q,S,X,q⟩:=Kr Y;obtain⟨y,B,E⟩:=ZV.1 O;refine⟨G,H,I,L,⟨J,y,B,E⟩,?_,Q,S,X⟩;intro i hi;have j:i<h.AQ.AW.length:=by omega
  have c:=Jo.1 q i hi;unfold Yw at c;rw[CS hi,CS j]at c;unfold Js Qu at c;simp only[AF,beq_iff_eq,BG,decide_eq_false_iff_not,Jq qM,Jq qO]at c;obtain⟨k1,⟨⟨l1,k3,k4⟩,k5,k6,k7,k8⟩,k9⟩:=c;refine⟨k5,?_,?_,k7,k8,l1,by omega⟩
  .rw[<-k6];exact AZA k4
  .rw[k1];simp[List.getD,j]
 .intro hR;unfold D8;have Z:=CM hR.rules;simp only[AF,CQ,BG,decide_eq_false_iff_not,beq_iff_eq];refine⟨hR.rules,hR.now,hR.turn,by have:=hR.KC.few;omega,by rw[hR.EU],ZV.2 ⟨hR.KC.par,hR.KC.ids,hR.KC.turns⟩,⟨hR.todo,hR.GM,hR.Rq⟩,?_⟩;unfold MK;rw[Jo];intro i hi;have j:i<h.AQ.AW.length:=by have:=hR.EU;omega
  have a:=hR.cab i hi;have g:DF h.AG i<=10:=by have:=a.room;omega
  have e:=WS hR.KC g;unfold Yw Js Qu;rw[CS hi,CS j];simp only[AF,beq_iff_eq,BG,decide_eq_false_iff_not,Jq qM,Jq qO];refine⟨?_,⟨⟨a.led,?_,?_⟩,a.row,?_,a.held,a.JY⟩,by have:=a.room;omega⟩
  .rw[a.total];simp[List.getD,j]
  .rw[a.row];exact ABz hR.KC g
  .rw[a.G6];exact Dr.2 (kU e)
  .rw[a.G6];exact ACl e
theorem HH{l:BE}:Et l=true↔(1<=l.Total/\l.Total<=60)/\(0<=l.Db/\l.Db<=l.Total)/\(0<=l.Ee/\l.Ee<=l.Total)/\(0<=l.FY/\l.FY<=l.Total)/\l.Db+l.Ee+l.FY=l.Total/\0<=l.Fx/\l.Fx<=l.FY:=by
 grind[Et,CQ,Ah]
theorem AJT{l:BE}(q:Et l=true){n a b c d:Int}(J:0<=n/\n<=60)(e:a = -1\/a=0\/a=1)(g:b = -1\/b=0\/b=1)(h:c = -1\/c=0\/c=1)(j:d = -1\/d=0\/d=1)
 (H:Et ⟨l.Total,l.Db+a*n,l.Ee+b*n,l.FY+c*n,l.Fx+d*n⟩=true):l8 l n a b c d=(⟨l.Total,l.Db+a*n,l.Ee+b*n,l.FY+c*n,l.Fx+d*n⟩,true):=by
 have I:=HH.1 q;have w:∀a x:Int,(a = -1\/a=0\/a=1)->0<=x->x<=60->w64 (x+w64 (a*n))=x+a*n:=by
  grind[Ah]
 have y:=w a l.Db e (by omega) (by omega);have B:=w b l.Ee g (by omega) (by omega);have E:=w c l.FY h (by omega) (by omega);have G:=w d l.Fx j (by omega) (by omega);unfold l8
 grind[CQ]
section
variable{α:Type}{lt:α->α->Bool}
theorem SX{p:α->Bool}{a:α}(c:p a=true):∀{l:List α},(∀x∈l,p x=false)->(put lt a l).eraseP p=l
 | [],_=>by simp[put,c]|z::l,h=>by
  unfold put;split
  .rw[List.eraseP_cons_of_neg (by rw[h z (Bc ..)];simp),SX c fun x e=>h x (Av _ e)]
  .rw[List.eraseP_cons_of_pos c]
theorem AJj(a:α):∀l:List α,l.Sublist (put lt a l)
 | []=>List.nil_sublist _|z::l=>by
  unfold put;split
  .exact(AJj a l).cons_cons z
  .exact List.sublist_cons_self ..
theorem ADH{p:α->Bool}{l:List α}{k:Nat}(a:k<l.length)(e:l.eraseP p=l.take k++l.drop (k+1)):l.Perm (l[k]::l.eraseP p):=by
 grind[DR,List.take_append_drop,List.perm_middle]
theorem set_perm{p:α->Bool}{l:List α}{k:Nat}(c:k<l.length)(e:l.eraseP p=l.take k++l.drop (k+1))(a:α):(l.set k a).Perm (a::l.eraseP p):=by
 rw[e,Ev,AX c];exact Jd
end
theorem OL.sub{S T:List BH}(h:OL T)(a:S.Sublist T):OL S:=⟨Aw a.length_le h.few,fun p c=>h.pins p (a.subset c),h.ids.sublist a,h.srt.sublist a⟩
theorem AWM{p x:BH}:isP p x=true↔x=p:=by
 unfold isP;obtain⟨a,b⟩:=p;obtain⟨c,d⟩:=x;simp
theorem jR{S:List BH}{p:BH}(h:OL (put ltP p S)):QG p=true/\OL S/\∀x∈S,isP p x=false:=by
 have c:=h.sub (AJj p S);refine⟨h.pins p (Sp.2 (.inl rfl)),c,fun x e=>?_⟩;cases a:isP p x with
 |false=>rfl|true=>
  rw[AWM]at a;subst a;have:=((WU (lt:=ltP) x S).pairwise_iff (fun h=>Ne.symm h)).1 h.ids
  grind[List.pairwise_cons]
theorem AJ5{S:List BH}{p:BH}(h:OL (put ltP p S)){k:Nat}(c:k<9)(e:p.At.tmod 9=(k:Int)):(put ltP p S).filter (Ff k)=put ltP p (S.filter (Ff k))/\∀i,i<9->i≠k->(put ltP p S).filter (Ff i)=S.filter (Ff i):=by
 have g:Srt ltP S:=(jR h).2.1.srt.imp fun {a b} h=>Ei.o9 _ _ h
 grind[Tq,Ei,Jk]
theorem AW9{S:List BH}{p:BH}(h:OL (put ltP p S)):S6 (wOf (put ltP p S)) p=(wOf S,true):=by
 grind[jR,MS,AJ5,isP,S6,Dr,kU,AVF,SX,uy,Sp]
theorem AXA{S:List BH}{p:BH}(h:OL (put ltP p S)):PU (wOf S) p=(wOf (put ltP p S),true):=by
 obtain⟨a,y,B⟩:=jR h;have g:=(MS a).1.1;obtain⟨k,c,e⟩:=Zm g;obtain⟨j,q⟩:=AJ5 h c e
 grind[W5,wOf,Int.toNat_natCast,uy,PU,Dr,kU]
section
variable{p:AN}{ps:List AN}(i:Int)
theorem Is(h:1<=p.BA/\p.BA<=6):I1 (p::ps) i=(if p.Bi=i then p.BA else 0)+I1 ps i:=by
 rw[UO];unfold oT
 grind[inB]
theorem IT:DF (p::ps) i=(if p.AY=i then 1 else 0)+DF ps i:=by
 rw[Yz];unfold AVj;simp
theorem Ot(a:p.State≠2):IY (p::ps) i=IY ps i:=by
 rw[M9];unfold V4;simp[a]
theorem YC(a:p.State=2)(h:1<=p.BA/\p.BA<=6):IY (p::ps) i=(if p.AY=i then p.BA else 0)+IY ps i:=by
 rw[M9];unfold V4
 grind[inB]
theorem PE(a:p.State≠2):Fu (p::ps) i=Fu ps i:=by
 rw[UC];unfold Lm;simp[a]
theorem Sk(a:p.State=2):Fu (p::ps) i=if p.AY=i then put ltP ⟨p.Cq,p.Id⟩ (Fu ps i) else Fu ps i:=by
 grind[UC,Lm]
theorem UF(r:Aa)(now:Int)(a:p.State≠1):Dq r (p::ps) i now=Dq r ps i now:=by
 rw[Rx,ATM a]
theorem K1{r:Aa}{now:Int}(a:Dp r p now=true)(c:p.State=1):Dq r (p::ps) i now=if p.AY=i then put ltE ⟨IB r p now,p.Az,p.Id,p.BA⟩ (Dq r ps i now) else Dq r ps i now:=by
 grind[Rx,ALN]
end
section
variable{r:Aa}{now turn:Int}{ps:List AN}
theorem Qi.sub{qs:List AN}(h:Qi r now turn ps)(a:qs.Sublist ps):Qi r now turn qs:=
 ⟨Aw a.length_le h.few,fun p c=>h.par p (a.subset c),h.ids.sublist a,h.turns.sublist a⟩
theorem Qi.set(h:Qi r now turn ps){k:Nat}(E:k<ps.length){p:AN}(G:p.Id=ps[k].Id)(y:p.Az=ps[k].Az)(H:p.Since=ps[k].Since)(B:Dp r p now=true):Qi r now turn (ps.set k p):=by
 have hT:=(h.par _ (Au E)).2;have g:∀i (hi:i<(ps.set k p).length),(ps.set k p)[i].Id=(ps[i]'(by simpa using hi)).Id/\(ps.set k p)[i].Az=(ps[i]'(by simpa using hi)).Az/\(ps.set k p)[i].Since=(ps[i]'(by simpa using hi)).Since:=by
  grind
 refine⟨by simpa using h.few,?_,?_,?_⟩
 .intro q e;rcases List.mem_or_eq_of_mem_set e with e|rfl
  .exact h.par q e
  .exact⟨B,by rw[y];exact hT⟩
 .rw[CW];intro i j hi c a;rw[(g i hi).1,(g j c).1];exact CW.1 h.ids i j _ _ a
 .rw[CW];intro i j hi c a;have:=CW.1 h.turns i j (by simpa using hi) (by simpa using c) a
  grind[H3]
end
theorem AYo{h:AE}{id:Int}(a:0<=F4 h id):∃k,∃c:k<h.AG.length,F4 h id=(k:Int)/\par h id=h.AG[k]/\(par h id).Id=id/\h.AG.eraseP (fun x=>x.Id==id)=h.AG.take k++h.AG.drop (k+1):=by
 grind[F4,Ik,par]
end Lv.P
