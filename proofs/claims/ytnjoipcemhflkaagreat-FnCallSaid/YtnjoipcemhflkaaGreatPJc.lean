/- Plain laws about what the program computes. -/
import Derived.Test.YtnjoipcemhflkaaGreatPIc
noncomputable section
set_option linter.unusedVariables false
set_option linter.unusedSimpArgs false
set_option linter.unusedSectionVars false
open Bool renaming and_eq_true->AF,and_false->Cw,not_eq_true'->A6
open List renaming filterMap_cons->IV,filter_cons->EH,flatten_append->Dj,flatten_cons->D2,foldl_cons->Bj,getElem_mem->BC,mem_cons->Ak,mem_cons_of_mem->Aq,mem_cons_self->BQ,pairwise_cons->BK,pairwise_filterMap->Ej,pairwise_iff_getElem->CJ,perm_middle->Jz,set_eq_take_append_cons_drop->Eh
open Nat renaming add_assoc->CB,le_succ->Cl,le_trans->Ar
namespace Lv.P
open Lv Go
theorem Rb{h:AE}{id:Int}(a:verdict h ⟨5,id,0,0,0,0⟩=0):Dr h=true/\0<=FI h id:=by
 grind[verdict,HJ,KH,FI]
def yK(h:AE)(id:Int):AE:=Dm (IG h (par h id)) (QI (IG h (par h id)).Az (par h id).AX)
def MC(h:AE)(id:Int):AE×Int:=
 if verdict h ⟨5,id,0,0,0,0⟩≠0 then (h,verdict h ⟨5,id,0,0,0,0⟩) else (yK h id,0)
theorem s4{n:Nat}(I:n+3<=1048576){h:AE}(g:Sm n h)(id:Int):AEX h id=some (MC h id)/\Sm (n+3) (MC h id).1:=by
 have j:=g.fit (by omega);unfold AEX MC;rw[HB j,AB,Gb j,AB];simp only[Bb,bne_iff_ne,ne_eq];by_cases e:verdict h ⟨5,id,0,0,0,0⟩=0
 .obtain⟨E,p0⟩:=Rb e;obtain⟨q,y,H,B,G⟩:=jA E p0;rw[if_neg (not_not_intro e),if_neg (not_not_intro e),Ga j];simp only[AB,Xe p0 (Q9 p0).1,CQ,Ic,Ie,Ig,Ih,H5,Ii,Ij,D7];have a:=AKe g (par h id);show bd (lZ h (par h id)) _=_/\_;rw[UP (by omega) g q y B,AB,I0 (by have:=a.todo;omega),AB];have c:=a.mono (Cl (n+2));exact⟨rfl,c.Df,c.B4,c.De,c.Dk,Ar (QJ _ _) (by have:=a.todo;omega),c.E8⟩
 .rw[if_pos e,if_pos e];exact⟨rfl,g.mono (by omega)⟩
theorem TE{h:AE}{id:Int}(a:verdict h ⟨2,id,0,0,0,0⟩=0):Dr h=true/\0<=FI h id:=by
 grind[verdict,HJ]
def TC(h:AE)(k id:Int):AE:=CS h k ⟨(cbn h k).AW,(cbn h k).Row.eraseP (fun x=>x.Id==id),(cbn h k).Bl⟩
def cancelled(h:AE)(id:Int):AE:=
 let p:=par h id
 if p.State=2 then gone (Dm (dropped h p) (QI (dropped h p).Az p.AX)) p else gone (TC h p.AX id) p
def OR(h:AE)(id:Int):AE×Int:=
 if verdict h ⟨2,id,0,0,0,0⟩≠0 then (h,verdict h ⟨2,id,0,0,0,0⟩) else (cancelled h id,0)
theorem ACH{h:AE}(e:Bf h){p:AQ}(a:0<=p.AX)(c:p.AX<h.AH.length):eQ h p=some (dropped h p):=XP e a c
theorem zy{n:Nat}(O:n+1<=1048576){h:AE}(c:Sm n h)(id:Int):AEp h id=some (OR h id)/\Sm (n+1) (OR h id).1:=by
 have j:=c.fit (by omega);unfold AEp OR;rw[HB j,AB,Gb j,AB];simp only[Bb,bne_iff_ne,ne_eq];by_cases e:verdict h ⟨2,id,0,0,0,0⟩=0
 .obtain⟨J,p0⟩:=TE e;obtain⟨y,B,Q,G,L⟩:=jA J p0;rw[if_neg (not_not_intro e),if_neg (not_not_intro e),Ga j];simp only[AB,Xe p0 (Q9 p0).1,CQ,Ic,Ie,Ig,Ih,H5,Ii,Ij,D7,beq_iff_eq,AT];show (if (par h id).State=2 then bd (eQ h (par h id)) _ else bd (at? h.AH (par h id).AX) _)=_/\_;unfold cancelled;dsimp only;by_cases q:(par h id).State=2
  .rw[if_pos q,if_pos q,ACH j y B,AB];have E:=Nt c (par h id);rw[I0 (by have:=E.todo;omega),AB];have a:=E.mono (Cl n);have H:Sm (n+1) (Dm (dropped h (par h id)) (QI (dropped h (par h id)).Az (par h id).AX)):=
    ⟨a.Df,a.B4,a.De,a.Dk,Ar (QJ _ _) (by have:=E.todo;omega),a.E8⟩
   unfold WM;show bd (T6 (Dm (dropped h (par h id)) (QI (dropped h (par h id)).Az (par h id).AX)) (par h id)) _=_/\_;rw[NH (H.fit O) (by (have:(Dm (dropped h (par h id)) (QI (dropped h (par h id)).Az (par h id).AX)).AH.length=h.AH.length:=by simp[Dm,dropped,CS]);rw[this];exact G),AB];exact⟨rfl,aa H _⟩
  .rw[if_neg q,if_neg q];simp only[show at? h.AH (par h id).AX=some (cbn h (par h id).AX) from Ez y B,show at? h.AH (h.AG.getD (FI h id).toNat sR).AX=some (cbn h (par h id).AX) from Ez y B,AB];have g:=c.cbn (par h id).AX;show bd (eR (cbn h (par h id).AX).Row id) _=_/\_;rw[UL (by have:=g.row;omega),AB];have I:Sm n (TC h (par h id).AX id):=c.cab ⟨Ar (Ud _ _) g.row,g.UQ,g.pins⟩;unfold WM;show bd (T6 (TC h (par h id).AX id) (par h id)) _=_/\_;rw[NH (I.fit (by omega)) (by (have:(TC h (par h id).AX id).AH.length=h.AH.length:=by simp[TC,CS]);rw[this];exact G),AB];exact⟨rfl,(aa I _).mono (Cl n)⟩
 .rw[if_pos e,if_pos e];exact⟨rfl,c.mono (by omega)⟩
theorem TD{h:AE}{id:Int}(a:verdict h ⟨4,id,0,0,0,0⟩=0):Dr h=true/\0<=FI h id:=by
 grind[verdict,HJ,KH,FI]
def PD(h:AE)(p:AQ):AE:=CS h p.AX ⟨(l8 (cbn h p.AX).AW p.A5 0 (-1) 1 0).1,(cbn h p.AX).Row,(Tz (cbn h p.AX).Bl ⟨p.CW,p.Id⟩).1⟩
theorem ARq{n:Nat}{h:AE}(c:Sm n h)(p:AQ):Sm n (PD h p):=by
 have a:=c.cbn p.AX;have e:=AGg a ⟨p.CW,p.Id⟩;exact c.cab ⟨a.row,e.1,e.2⟩
def accepted(h:AE)(id:Int):AE:=
 let p:=par h id
 if 0<=p.BY then SO (gone (PD h p) p) p.BY p.A5 else gone (PD h p) p
def OL(h:AE)(id:Int):AE×Int:=
 if verdict h ⟨4,id,0,0,0,0⟩≠0 then (h,verdict h ⟨4,id,0,0,0,0⟩) else (accepted h id,0)
theorem yg(h:AE)(p:AQ):(gone h p).AH.length=h.AH.length:=by grind[gone,CS]
theorem zw{n:Nat}(O:n+1<=1048576){h:AE}(j:Sm n h)(id:Int):AEW h id=some (OL h id)/\Sm (n+1) (OL h id).1:=by
 have e:=j.fit (by omega);unfold AEW OL;rw[HB e,AB,Gb e,AB];simp only[Bb,bne_iff_ne,ne_eq];by_cases c:verdict h ⟨4,id,0,0,0,0⟩=0
 .obtain⟨H,p0⟩:=TD c;obtain⟨q,y,L,B,J⟩:=jA H p0;rw[if_neg (not_not_intro c),if_neg (not_not_intro c),Ga e];have I:=(e.Dk _ (UX q y)).2;have G:=ARq j (par h id);have E:(PD h (par h id)).AH.length=h.AH.length:=by simp[PD,CS]
  simp only[AB,Xe p0 (Q9 p0).1,show at? h.AH (h.AG.getD (FI h id).toNat sR).AX=some (cbn h (par h id).AX) from Ez q y,CQ,Ic,Ie,Ig,Ih,H5,Ii,Ij,D7,jR,UN I,AT,BJ,ge_iff_le,decide_eq_true_eq];rw[Bt ⟨rfl,⟨by omega,by omega⟩,trivial⟩];show bd (T6 (PD h (par h id)) (par h id)) _=_/\_;rw[NH (G.fit (by omega)) (by rw[E];exact B),AB];have g:=aa G (par h id);unfold accepted dy;dsimp only;by_cases a:0<=(par h id).BY
  .rw[if_pos a];show (if 0<=(par h id).BY then bd (lg (gone (PD h (par h id)) (par h id)) (par h id).BY (par h id).A5) _ else _)=_/\_;rw[if_pos a,XQ (g.fit (by omega)) a (by rw[yg,E];exact B),AB];exact⟨rfl,yY g _ _⟩
  .rw[if_neg a];show (if 0<=(par h id).BY then _ else _)=_/\_;rw[if_neg a];exact⟨rfl,g.mono (Cl n)⟩
 .rw[if_pos c,if_pos c];exact⟨rfl,j.mono (by omega)⟩
def LD(h:AE)(i:Nat):AE:=
 let x:=CS h i ⟨(cbn h i).AW,DM h.AR h.AG i h.Now,(cbn h i).Bl⟩
 if 0<C2 h.AG i then Dm x (QI h.Az i) else x
def Kr:Nat->Nat->AE->AE|0,_,h=>h|k+1,i,h=>Kr k (i+1) (LD h i)
theorem nQ(h:AE)(i:Nat):(LD h i).AH.length=h.AH.length:=by grind[LD,CS,Dm]
theorem jc{n:Nat}{h:AE}(c:Sm n h)(i:Nat):Sm (n+1) (LD h i):=by
 have e:=c.cbn (i:Int);have g:(DM h.AR h.AG (i:Int) h.Now).length<=n:=by
  unfold DM;rw[HF];exact Ar (List.length_filterMap_le _ _) c.B4
 have j:Sm n (CS h i ⟨(cbn h i).AW,DM h.AR h.AG i h.Now,(cbn h i).Bl⟩):=c.cab ⟨g,e.UQ,e.pins⟩;have a:=j.mono (Cl n);unfold LD;dsimp only;split
 .exact⟨a.Df,a.B4,a.De,a.Dk,Ar (QJ _ _) (by have:=c.todo;omega),a.E8⟩
 .exact a
theorem AP6{n:Nat}{h:AE}(B:Sm n h)(H:n+h.AH.length<=1048576):A7 WE big (0,h)=some (Kr h.AH.length 0 h,0):=by
 generalize a:h.AH.length=len at *;refine(DE (F:=WE) (n:=len) (fun i (v:AE)=>((i:Int),v)) (fun i v=>Sm (n+i) v/\v.AH.length=len) (fun i v=>some (Kr (len-i) i v,0)) (by omega) ?_ (v:=h) ⟨B,a⟩).trans (by rw[Nat.sub_zero]);intro L i v ⟨y,c⟩ hi G;have j:=y.fit (by omega);unfold WE;dsimp only;rw[c];rcases Nat.lt_or_ge i len with g|g
 .have I:=j.Df;have E:=j.B4;rw[Bw g,BP,NG (by omega) E,AB,Ez (by omega) (by omega),AB,AB,ND (by omega),AB];have e:Kr (len-i) i v=Kr (len-(i+1)) (i+1) (LD v i):=by rw[show len-i=(len-(i+1))+1 by omega];rfl
  rw[e];have q:=G (LD v i) ⟨by have:=jc y i;rw[CB]at this;exact this,by rw[nQ];exact c⟩ g;rw[<-q];unfold eA LD;simp only[BJ,gt_iff_lt,AT,BX g (show len<2 ^ 63 by omega),Int.toNat_natCast,I0 j.todo,AB];split<;>rfl
 .have:i=len:=by omega
  subst this;rw[Cc,BS,AT,Nat.sub_self];rfl
def tP(h:AE):AE:=Kr h.AH.length 0 ⟨h.AR,w64 (h.Now+1),h.As,h.AG,h.AH,h.Az,h.Ay⟩
def Zu(h:AE):AE×Int:=
 if verdict h ⟨6,0,0,0,0,0⟩≠0 then (h,verdict h ⟨6,0,0,0,0,0⟩) else (tP h,0)
theorem AAK:∀(k i:Nat) {n:Nat} {h:AE},Sm n h->Sm (n+k) (Kr k i h)|0,_,_,_,a=>a|k+1,i,n,h,a=>by have:=AAK k (i+1) (jc a i);rw[CB,Nat.add_comm 1 k]at this;exact this
theorem AJE{n:Nat}{h:AE}(a:Sm n h)(j:n+h.AH.length<=1048576):AEY h=some (Zu h)/\Sm (n+h.AH.length) (Zu h).1:=by
 have g:=a.fit (by omega);unfold AEY Zu;rw[HB g,AB,Gb g,AB];simp only[Bb,bne_iff_ne,ne_eq];have e:Sm n ⟨h.AR,w64 (h.Now+1),h.As,h.AG,h.AH,h.Az,h.Ay⟩:=⟨a.Df,a.B4,a.De,a.Dk,a.todo,a.E8⟩;by_cases c:verdict h ⟨6,0,0,0,0,0⟩=0
 .rw[if_neg (not_not_intro c),if_neg (not_not_intro c),AP6 e j];exact⟨rfl,AAK _ _ e⟩
 .rw[if_pos c,if_pos c];exact⟨rfl,a.mono (by omega)⟩
def gB(w:Aj)(now:Int):List Int:=(Ep w).filterMap fun p=>if p.At<=now then some p.Id else none
theorem s9{w:Aj}(a:Cv w)(now:Int):xL w now=some ((Ep w).filter fun p=>decide (p.At<=now)):=by
 have hlim:lim=268435456:=rfl;have c:=Js a;unfold xL;rw[Sz a,AB,collect (l:=Ep w) (fun p=>if p.At<=now then some p else none) some c ?_ ?_]
 .congr 1;generalize Ep w=l
  induction l with
  |nil=>rfl|cons p l e=>
   grind
 .grind[eD,eC,A9,AB,BJ,AT,Bt]
 grind[eD,xM,BS,AT]
theorem AAC{h:AE}(g:Bf h){k:Int}(a:0<=k)(c:k<h.AH.length):AEZ h k=some (gB (cbn h k).Bl h.Now):=by
 have hlim:lim=268435456:=rfl;have e:=(g.Dk _ (UX a c)).2;have j:=Js e;unfold AEZ;rw[Ez a c,AB];show bd (xL (cbn h k).Bl h.Now) _=_;rw[s9 e,AB];generalize hD:(Ep (cbn h k).Bl).filter (fun p=>decide (p.At<=h.Now))=D;have hDl:D.length<=1048576:=by rw[<-hD];exact Ar (List.length_filter_le _ _) j
 rw[collect (l:=D) (fun p=>some p.Id) some hDl ?_ ?_]
 .unfold gB;rw[<-hD];congr 1;generalize Ep (cbn h k).Bl=l
  induction l with
  |nil=>rfl|cons p l q=>
   grind
 .grind[eE,BP,A9,AB,Bt]
 grind[eE,xN,BS,AT]
section
variable{α:Type}{lt:α->α->Bool}
theorem W6(a:α):∀l:List α,(put lt a l).Perm (a::l)
 | []=>.refl _|z::l=>by
  unfold put;split
  .exact((W6 a l).cons z).trans (.swap a z l)
  .exact .refl _
theorem NV:∀l:List α,(C7 lt l).Perm l| []=>.refl _|a::l=>(W6 a _).trans ((NV l).cons a)
def RS(lt:α->α->Bool)(l:List α):Prop:=l.Pairwise fun a b=>lt a b=true\/lt b a=true
theorem RS.perm{a c:List α}(h:RS lt a)(e:a.Perm c):RS lt c:=(e.pairwise_iff (fun h=>h.symm)).1 h
theorem ML(h:Swo lt){l:List α}(q:RS lt l):(C7 lt l).Pairwise fun a b=>lt a b=true:=by
 have c:(C7 lt l).Pairwise fun a b=>lt b a=false:=TZ h l
 have e:RS lt (C7 lt l):=q.perm (NV (lt:=lt) l).symm;exact(c.and e).imp fun {a b} ⟨g,j⟩=>j.resolve_right (by rw[g];simp)
theorem nK(h:Swo lt):∀{g j:List α},(g.Pairwise fun a b=>lt a b=true)->(j.Pairwise fun a b=>lt a b=true)->g.Perm j->g=j
 | [],j,_,_,c=>c.nil_eq|a::g,[],_,_,c=>by cases c.eq_nil
 |a::g,b::j,q,y,c=>by
  rw[BK]at q y;by_cases e:a=b
  .subst e;rw[nK h q.2 y.2 c.cons_inv]
  .have E:a∈j:=(Ak.1 (c.subset (BQ ..))).resolve_left e;have B:b∈g:=(Ak.1 (c.symm.subset (BQ ..))).resolve_left (Ne.symm e);have:=h.ni _ _ (q.1 b B)
   grind
theorem ARr(h:Swo lt){a c:List α}(e:RS lt a)(g:a.Perm c):C7 lt a=C7 lt c:=
 nK h (ML h e) (ML h (e.perm g)) ((NV a).trans (g.trans (NV c).symm))
end
structure Uni(ps:List AQ):Prop where
 id:ps.Pairwise fun p q=>p.Id≠q.Id
 turn:ps.Pairwise fun p q=>p.As≠q.As
theorem Uni.perm{a b:List AQ}(h:Uni a)(c:a.Perm b):Uni b:=⟨(c.pairwise_iff (fun h=>Ne.symm h)).1 h.id,(c.pairwise_iff (fun h=>Ne.symm h)).1 h.turn⟩
theorem Uni.tail{p:AQ}{b:List AQ}(h:Uni (p::b)):Uni b:=⟨(BK.1 h.id).2,(BK.1 h.turn).2⟩
theorem Qg{r:Aa}{now:Int}{p:AQ}(a:DL r p now=true)(c:p.State=1):EL r p now=(⟨IH r p now,p.As,p.Id,p.A5⟩,true):=by
 grind[EL]
theorem ZP{r:Aa}{now:Int}{p:AQ}(h:¬(DL r p now=true/\p.State=1)):EL r p now=(⟨0,0,0,0⟩,false):=by
 unfold EL;rw[if_neg h]
theorem Iz{r:Aa}{c now:Int}{p:AQ}{e:Ae}(h:Kx r c now p=some e):e=⟨IH r p now,p.As,p.Id,p.A5⟩/\DL r p now=true/\p.State=1/\p.AX=c:=by
 grind[Kx,Qg,ZP]
theorem AHg{r:Aa}{now:Int}{p:AQ}(a:DL r p now=true)(e:p.State=1)(c:Int):Kx r c now p=if p.AX=c then some ⟨IH r p now,p.As,p.Id,p.A5⟩ else none:=by
 unfold Kx;rw[Qg a e];simp
theorem AOU{r:Aa}{c now:Int}{p:AQ}(a:p.State≠1):Kx r c now p=none:=by
 grind[Kx,ZP]
theorem Ti{c:Int}{p:AQ}{e:BB}(h:MH c p=some e):e=⟨p.CW,p.Id⟩/\p.State=2/\p.AX=c:=by
 grind[MH]
theorem AJf{ps:List AQ}(h:Uni ps)(r:Aa)(c now:Int):RS ltE (ps.filterMap (Kx r c now)):=by
 unfold RS;rw[Ej];refine h.turn.imp ?_;intro p q j a e b g;obtain⟨rfl,_⟩:=Iz e;obtain⟨rfl,_⟩:=Iz g
 grind[Tb]
theorem zR{ps qs:List AQ}(h:Uni ps)(a:ps.Perm qs)(r:Aa)(c now:Int):DM r ps c now=DM r qs c now:=ARr ag (AJf h r c now) (a.filterMap _)
theorem U4{ps qs:List AQ}(a:ps.Perm qs)(c:Int):FO ps c=FO qs c:=gz EX ah (a.filterMap _)
theorem Sp(r:Aa)(p:AQ)(ps:List AQ)(c now:Int):DM r (p::ps) c now=match Kx r c now p with|some e=>put ltE e (DM r ps c now)|none=>DM r ps c now:=by
 unfold DM;rw[IV];cases Kx r c now p<;>rfl
theorem U3(p:AQ)(ps:List AQ)(c:Int):FO (p::ps) c=match MH c p with|some e=>put ltP e (FO ps c)|none=>FO ps c:=by
 unfold FO;rw[IV];cases MH c p<;>rfl
theorem Nw(f:AQ->Int)(g:Int->AQ->Int)(a:∀n p,g n p=n+f p):∀(l:List AQ) (n:Int),l.foldl g n=n+l.foldl g 0| [],n=>by simp|p::l,n=>by rw[Bj,Bj,Nw f g a l,Nw f g a l (g 0 p),a,a];omega
def Wl(c:Int)(p:AQ):Int:=if ((p.State==2)&&((p.AX==c)&&inB p.A5 1 6))=true then p.A5 else 0
def nS(c:Int)(p:AQ):Int:=if ((p.BY==c)&&inB p.A5 1 6)=true then p.A5 else 0
def AQn(c:Int)(p:AQ):Int:=if (p.AX==c)=true then 1 else 0
theorem AF1(c n:Int)(p:AQ):T8 c n p=n+Wl c p:=by grind[T8,Wl]
theorem AGb(c n:Int)(p:AQ):UR c n p=n+nS c p:=by grind[UR,nS]
theorem uU(c n:Int)(p:AQ):MR c n p=n+AQn c p:=by grind[MR,AQn]
theorem Nz(p:AQ)(ps:List AQ)(c:Int):Im (p::ps) c=Wl c p+Im ps c:=by
 unfold Im;rw[Bj,Nw _ _ (AF1 c),AF1];omega
theorem VG(p:AQ)(ps:List AQ)(c:Int):JC (p::ps) c=nS c p+JC ps c:=by
 unfold JC;rw[Bj,Nw _ _ (AGb c),AGb];omega
theorem ZB(p:AQ)(ps:List AQ)(c:Int):C2 (p::ps) c=AQn c p+C2 ps c:=by
 unfold C2;rw[Bj,Nw _ _ (uU c),uU];omega
theorem jX{F:List AQ->Int}{f:AQ->Int}(hF:∀p l,F (p::l)=f p+F l){a b:List AQ}(g:a.Perm b):F a=F b:=by
 induction g with
 |nil=>rfl|cons x _ h=>rw[hF,hF,h]|swap x y l=>rw[hF,hF,hF,hF];omega|trans _ _ c e=>exact c.trans e
theorem AB9{a b:List AQ}(e:a.Perm b)(c:Int):Im a c=Im b c:=jX (F:=fun l=>Im l c) (fun p l=>Nz p l c) e
theorem ADB{a b:List AQ}(e:a.Perm b)(c:Int):JC a c=JC b c:=jX (F:=fun l=>JC l c) (fun p l=>VG p l c) e
theorem Rs{a b:List AQ}(e:a.Perm b)(c:Int):C2 a c=C2 b c:=jX (F:=fun l=>C2 l c) (fun p l=>ZB p l c) e
theorem AC7{F:List AQ->Int}{f:AQ->Int}(c:F []=0)(hF:∀p l,F (p::l)=f p+F l)(a:∀p,0<=f p):∀l,0<=F l| []=>by omega|p::l=>by have:=a p;have:=AC7 c hF a l;rw[hF];omega
theorem ANd(c:Int)(p:AQ):0<=Wl c p:=by
 grind[Wl,B8]
theorem AP7(c:Int)(p:AQ):0<=nS c p:=by
 grind[nS,B8]
theorem yi(l:List AQ)(c:Int):0<=Im l c:=AC7 (F:=fun l=>Im l c) rfl (fun p l=>Nz p l c) (ANd c) l
theorem AAL(l:List AQ)(c:Int):0<=JC l c:=AC7 (F:=fun l=>JC l c) rfl (fun p l=>VG p l c) (AP7 c) l
def wOf(S:List BB):Aj:=⟨(List.range 9).map fun i=>S.filter (FN i)⟩
theorem av(S:List BB):(wOf S).Ag.length=9:=by simp[wOf]
theorem te(S:List BB){i:Nat}(h:i<(wOf S).Ag.length):(wOf S).Ag[i]=S.filter (FN i):=by simp[wOf]
theorem AQJ(S:List BB){i:Nat}(h:i<9):(wOf S).Ag.getD i []=S.filter (FN i):=by
 rw[List.getD_eq_getElem?_getD,List.getElem?_eq_getElem (by rw[av];exact h),Option.getD_some,te]
theorem tf{S T:List BB}{k:Nat}(a:k<9)(h:∀i,i<9->i≠k->T.filter (FN i)=S.filter (FN i)):(⟨(wOf S).Ag.set k (T.filter (FN k))⟩:Aj)=wOf T:=by
 unfold wOf;congr 1;apply List.ext_getElem
 .simp
 grind
theorem jh:∀{S:List BB},(∀p∈S,1<=p.At)->(wOf S).Ag.flatten.Perm S
 | [],_=>by simp[wOf]|p::S,h=>by
  obtain⟨k,c,e⟩:=Zv (h p (BQ ..));have G:=jh (S:=S) fun q E=>h q (Aq _ E)
  have a:FN k p=true:=J7.2 e;have j:=tf (S:=S) (T:=p::S) c (by
   intro i hi B;have:FN i p=false:=by
    grind[FN]
   simp[EH,this])
  rw[<-j];have g:k<(wOf S).Ag.length:=by rw[av];exact c
  have y:(p::S).filter (FN k)=p::(wOf S).Ag[k]:=by rw[te];simp[EH,a]
  rw[y];dsimp only;rw[Eh,if_pos g,Dj,D2,List.cons_append];refine(Jz).trans (List.Perm.cons p ?_);rw[<-D2,<-Dj,<-Dw g,List.take_append_drop];exact G
structure PI(S:List BB):Prop where
 few:S.length<=10
 pins:∀p∈S,Q7 p=true
 ids:S.Pairwise fun a b=>a.Id≠b.Id
 srt:S.Pairwise fun a b=>ltP a b=true
theorem ji{S:List BB}(h:PI S):Oy (wOf S):=by
 have c:=jh fun p c=>(NA (h.pins p c)).1.1
 refine⟨av S,by rw[c.length_eq];exact h.few,fun p e=>h.pins p (c.subset e),(c.pairwise_iff (fun h=>Ne.symm h)).2 h.ids,?_,?_⟩
 .grind[wOf,FN]
 .intro i hi k j;have g:(S.filter (FN i)).Pairwise fun a b=>ltP a b=true:=h.srt.filter _
  grind[te,List.pairwise_iff_getElem]
theorem AAY{S:List BB}(h:PI S):Ep (wOf S)=S:=by
 have a:=jh fun p a=>(NA (h.pins p a)).1.1
 unfold Ep;rw[if_pos (DT.2 (ji h)),gz EX ah a,Pt EX h.srt]
theorem ATs{w:Aj}(a:HK w=true):w=wOf (Ep w):=by
 unfold Ep;rw[if_pos a];exact Y2 (DT.1 a)
structure VL(r:Aa)(ps:List AQ)(now:Int)(i:Nat)(c:Ad):Prop where
 row:c.Row=DM r ps i now
 F4:c.Bl=wOf (FO ps i)
 total:c.AW.Total=r.AW.getD i 0
 held:c.AW.ER=Im ps i
 Is:c.AW.FP=JC ps i
 led:EW c.AW=true
 room:C2 ps i<=r.Room
structure QP(r:Aa)(now turn:Int)(ps:List AQ):Prop where
 few:ps.length<=40
 par:∀p∈ps,DL r p now=true/\p.As<turn
 ids:ps.Pairwise fun p q=>p.Id<q.Id
 turns:ps.Pairwise fun p q=>H4 p q=false
structure RH(h:AE):Prop where
 rules:Dd h.AR=true
 now:0<=h.Now/\h.Now<=1000000
 turn:1<=h.As/\h.As<=1000001
 De:h.AH.length=h.AR.AW.length
 Hk:QP h.AR h.Now h.As h.AG
 cab:∀i (hi:i<h.AH.length),VL h.AR h.AG h.Now i h.AH[i]
 todo:Gr h.Az h.AH.length=true
 E8:JW h.Ay h.AH.length=true
 P1:(h.Ay.length:Int)=h.AR.Cr
theorem AAq(p q:AQ):H4 p q=H4 q p:=by
 grind[H4]
theorem AJs{p q:AQ}(h:H4 p q=false):p.As≠q.As:=by
 grind[H4]
theorem QP.uni{r:Aa}{now turn:Int}{ps:List AQ}(h:QP r now turn ps):Uni ps:=⟨h.ids.imp fun h=>by omega,h.turns.imp fun h=>AJs h⟩
theorem iG:Swo Kj:=⟨fun a b h=>by unfold Kj at *;simp only[decide_eq_true_eq,decide_eq_false_iff_not]at *;omega,fun a b c h=>by unfold Kj at *;simp only[decide_eq_true_eq]at *;omega⟩
theorem Zj{h:AE}:Kk h=true↔(∀p∈h.AG,DL h.AR p h.Now=true/\p.As<h.As)/\(h.AG.Pairwise fun p q=>p.Id<q.Id)/\h.AG.Pairwise fun p q=>H4 p q=false:=by
 have a:∀i (hi:i<h.AG.length),Zi h i=true↔DL h.AR h.AG[i] h.Now=true/\h.AG[i].As<h.As/\(∀j (c:j<h.AG.length),j+1=i->h.AG[j].Id<h.AG[i].Id)/\∀j (c:j<i),H4 h.AG[j] h.AG[i]=false:=by
  grind[Zi,CC,JY]
 grind[Kk,JY,List.mem_iff_getElem,Ng,Kj,iG,List.pairwise_iff_getElem]
theorem AN0{r:Aa}{p:AQ}{now:Int}(h:DL r p now=true):0<=IH r p now/\IH r p now<=4:=by
 have c:=Ed h;have j:=B2 c.1;have a:=mY r p.Ci (w64 (now-p.Since));unfold IH;rw[if_pos h];refine⟨a,?_⟩;unfold Yc;rw[A4 (n:=now-p.Since) (by omega) (by omega)];have e:0<=(now-p.Since).tdiv r.CD:=Int.tdiv_nonneg (by omega) (by omega);have g:(now-p.Since).tdiv r.CD<=now-p.Since:=by rw[Int.tdiv_eq_ediv_of_nonneg (by omega)];exact Int.ediv_le_self _ (by omega)
 grind[A4]
theorem N5{r:Aa}{ps:List AQ}{c now:Int}{e:Ae}(h:e∈DM r ps c now):∃p∈ps,Kx r c now p=some e:=by
 grind[DM,Pu]
theorem mc{ps:List AQ}{c:Int}{e:BB}(h:e∈FO ps c):∃p∈ps,MH c p=some e:=by
 grind[FO,Pu]
theorem ACq{r:Aa}{ps:List AQ}(h:Uni ps)(c now:Int):(DM r ps c now).Pairwise fun a b=>a.Id≠b.Id:=by
 refine((NV _).pairwise_iff (fun h=>Ne.symm h)).2 ?_;rw[Ej];refine h.id.imp ?_;intro p q e a g b j;obtain⟨rfl,_⟩:=Iz g;obtain⟨rfl,_⟩:=Iz j;exact e
theorem RB(r:Aa)(ps:List AQ)(c now:Int):((DM r ps c now).length:Int)<=C2 ps c:=by
 unfold DM;rw[HF];exact aW _ c (by intro p h;unfold Kx;rw[h,Cw];rfl) ps
theorem AHb(ps:List AQ)(c:Int):((FO ps c).length:Int)<=C2 ps c:=by
 unfold FO;rw[HF];exact aW _ c (by intro p h;unfold MH;rw[h,Cw];rfl) ps
theorem zS{r:Aa}{ps:List AQ}{now turn:Int}(y:QP r now turn ps){c:Int}(J:C2 ps c<=10):Km (DM r ps c now)=true:=by
 have L:=y.uni;have I:=RB r ps c now;unfold Km;rw[AF,JY];refine⟨by simp;omega,?_⟩;intro k g;unfold qAt;rw[CC g];obtain⟨p,B,j⟩:=N5 (BC g);obtain⟨h,e,G,H⟩:=Iz j;have q:=AN0 e;have a:=Ed e;have E:=B2 a.1;simp only[AF,A6,decide_eq_false_iff_not];refine⟨?_,?_,?_⟩
 .rw[h];unfold AKc;simp only[AF,B8];omega
 .grind[CC,DM,List.pairwise_iff_getElem,ML,ag,AJf]
 .have:atF (fun x:Ae=>x.Id==(DM r ps c now)[k].Id) ((DM r ps c now).take k) 0<0:=by
   rw[bG]
   grind[List.mem_iff_getElem,List.pairwise_iff_getElem,ACq]
  omega
theorem W4{r:Aa}{ps:List AQ}{now turn:Int}(B:QP r now turn ps){c:Int}(Q:C2 ps c<=10):PI (FO ps c):=by
 have O:=AHb ps c;have g:(ps.filterMap (MH c)).Pairwise fun a b=>a.Id≠b.Id:=by
  rw[Ej];refine B.uni.id.imp ?_;intro p q j a E b G;obtain⟨rfl,_⟩:=Ti E;obtain⟨rfl,_⟩:=Ti G;exact j
 refine⟨by omega,?_,((NV _).pairwise_iff (fun h=>Ne.symm h)).2 g,ML EX (g.imp ?_)⟩
 .intro e H;obtain⟨p,y,I⟩:=mc H;obtain⟨rfl,J,_⟩:=Ti I;have L:=Ed (B.par p y).1
  grind[B2,Q7,B8]
 grind[ltP]
theorem Hz{h:AE}:Dr h=true↔RH h:=by
 constructor
 .intro Y;obtain⟨G,H,I,J,L,O,Q,S,X,q⟩:=J5 Y;obtain⟨y,B,E⟩:=Zj.1 O;refine⟨G,H,I,L,⟨J,y,B,E⟩,?_,Q,S,X⟩;intro i hi;have j:i<h.AR.AW.length:=by omega
  have c:=JY.1 q i hi;unfold VU at c;rw[CC hi,CC j]at c;unfold Jd Nf at c;simp only[AF,beq_iff_eq,A6,decide_eq_false_iff_not,HI aU,HI aV]at c;obtain⟨k1,⟨⟨l1,k3,k4⟩,k5,k6,k7,k8⟩,k9⟩:=c;refine⟨k5,?_,?_,k7,k8,l1,by omega⟩
  .rw[<-k6];exact ATs k4
  .rw[k1];simp[List.getD,j]
 .intro hR;unfold Dr;have Z:=B2 hR.rules;simp only[AF,B8,A6,decide_eq_false_iff_not,beq_iff_eq];refine⟨hR.rules,hR.now,hR.turn,by have:=hR.Hk.few;omega,by rw[hR.De],Zj.2 ⟨hR.Hk.par,hR.Hk.ids,hR.Hk.turns⟩,⟨hR.todo,hR.E8,hR.P1⟩,?_⟩;unfold M4;rw[JY];intro i hi;have j:i<h.AR.AW.length:=by have:=hR.De;omega
  have a:=hR.cab i hi;have g:C2 h.AG i<=10:=by have:=a.room;omega
  have e:=W4 hR.Hk g;unfold VU Jd Nf;rw[CC hi,CC j];simp only[AF,beq_iff_eq,A6,decide_eq_false_iff_not,HI aU,HI aV];refine⟨?_,⟨⟨a.led,?_,?_⟩,a.row,?_,a.held,a.Is⟩,by have:=a.room;omega⟩
  .rw[a.total];simp[List.getD,j]
  .rw[a.row];exact zS hR.Hk g
  .rw[a.F4];exact DT.2 (ji e)
  .rw[a.F4];exact AAY e
theorem FD{l:A3}:EW l=true↔(1<=l.Total/\l.Total<=60)/\(0<=l.DP/\l.DP<=l.Total)/\(0<=l.ER/\l.ER<=l.Total)/\(0<=l.E6/\l.E6<=l.Total)/\l.DP+l.ER+l.E6=l.Total/\0<=l.FP/\l.FP<=l.E6:=by
 grind[EW,B8,A4]
theorem mS{l:A3}(q:EW l=true){n a b c d:Int}(J:0<=n/\n<=60)(e:a = -1\/a=0\/a=1)(g:b = -1\/b=0\/b=1)(h:c = -1\/c=0\/c=1)(j:d = -1\/d=0\/d=1)
 (H:EW ⟨l.Total,l.DP+a*n,l.ER+b*n,l.E6+c*n,l.FP+d*n⟩=true):l8 l n a b c d=(⟨l.Total,l.DP+a*n,l.ER+b*n,l.E6+c*n,l.FP+d*n⟩,true):=by
 have I:=FD.1 q;have w:∀a x:Int,(a = -1\/a=0\/a=1)->0<=x->x<=60->w64 (x+w64 (a*n))=x+a*n:=by
  grind[A4]
 have y:=w a l.DP e (by omega) (by omega);have B:=w b l.ER g (by omega) (by omega);have E:=w c l.E6 h (by omega) (by omega);have G:=w d l.FP j (by omega) (by omega);unfold l8
 grind[B8]
section
variable{α:Type}{lt:α->α->Bool}
theorem Pl{p:α->Bool}{a:α}(c:p a=true):∀{l:List α},(∀x∈l,p x=false)->(put lt a l).eraseP p=l
 | [],_=>by simp[put,c]|z::l,h=>by
  unfold put;split
  .rw[List.eraseP_cons_of_neg (by rw[h z (BQ ..)];simp),Pl c fun x e=>h x (Aq _ e)]
  .rw[List.eraseP_cons_of_pos c]
theorem AGM(a:α):∀l:List α,l.Sublist (put lt a l)
 | []=>List.nil_sublist _|z::l=>by
  unfold put;split
  .exact(AGM a l).cons_cons z
  .exact List.sublist_cons_self ..
theorem AA1{p:α->Bool}{l:List α}{k:Nat}(a:k<l.length)(e:l.eraseP p=l.take k++l.drop (k+1)):l.Perm (l[k]::l.eraseP p):=by
 grind[Dw,List.take_append_drop,List.perm_middle]
theorem set_perm{p:α->Bool}{l:List α}{k:Nat}(c:k<l.length)(e:l.eraseP p=l.take k++l.drop (k+1))(a:α):(l.set k a).Perm (a::l.eraseP p):=by
 rw[e,Eh,if_pos c];exact Jz
end
theorem PI.sub{S T:List BB}(h:PI T)(a:S.Sublist T):PI S:=⟨Ar a.length_le h.few,fun p c=>h.pins p (a.subset c),h.ids.sublist a,h.srt.sublist a⟩
theorem ARG{p x:BB}:isP p x=true↔x=p:=by
 unfold isP;obtain⟨a,b⟩:=p;obtain⟨c,d⟩:=x;simp
theorem ig{S:List BB}{p:BB}(h:PI (put ltP p S)):Q7 p=true/\PI S/\∀x∈S,isP p x=false:=by
 have c:=h.sub (AGM p S);refine⟨h.pins p (Tm.2 (.inl rfl)),c,fun x e=>?_⟩;cases a:isP p x with
 |false=>rfl|true=>
  rw[ARG]at a;subst a;have:=((W6 (lt:=ltP) x S).pairwise_iff (fun h=>Ne.symm h)).1 h.ids
  grind[List.pairwise_cons]
theorem AGf{S:List BB}{p:BB}(h:PI (put ltP p S)){k:Nat}(c:k<9)(e:p.At.tmod 9=(k:Int)):(put ltP p S).filter (FN k)=put ltP p (S.filter (FN k))/\∀i,i<9->i≠k->(put ltP p S).filter (FN i)=S.filter (FN i):=by
 have g:Srt ltP S:=(ig h).2.1.srt.imp fun {a b} h=>EX.ni _ _ h
 grind[Uf,EX,J7]
theorem AR4{S:List BB}{p:BB}(h:PI (put ltP p S)):Tz (wOf (put ltP p S)) p=(wOf S,true):=by
 grind[ig,NA,AGf,isP,Tz,DT,ji,AQJ,Pl,tf,Tm]
theorem AR5{S:List BB}{p:BB}(h:PI (put ltP p S)):NK (wOf S) p=(wOf (put ltP p S),true):=by
 obtain⟨a,y,B⟩:=ig h;have g:=(NA a).1.1;obtain⟨k,c,e⟩:=Zv g;obtain⟨j,q⟩:=AGf h c e
 grind[VJ,wOf,Int.toNat_natCast,tf,NK,DT,ji]
section
variable{p:AQ}{ps:List AQ}(i:Int)
theorem H0(h:1<=p.A5/\p.A5<=6):JC (p::ps) i=(if p.BY=i then p.A5 else 0)+JC ps i:=by
 rw[VG];unfold nS
 grind[inB]
theorem HW:C2 (p::ps) i=(if p.AX=i then 1 else 0)+C2 ps i:=by
 rw[ZB];unfold AQn;simp
theorem NP(a:p.State≠2):Im (p::ps) i=Im ps i:=by
 rw[Nz];unfold Wl;simp[a]
theorem YS(a:p.State=2)(h:1<=p.A5/\p.A5<=6):Im (p::ps) i=(if p.AX=i then p.A5 else 0)+Im ps i:=by
 rw[Nz];unfold Wl
 grind[inB]
theorem NS(a:p.State≠2):FO (p::ps) i=FO ps i:=by
 rw[U3];unfold MH;simp[a]
theorem Th(a:p.State=2):FO (p::ps) i=if p.AX=i then put ltP ⟨p.CW,p.Id⟩ (FO ps i) else FO ps i:=by
 grind[U3,MH]
theorem U6(r:Aa)(now:Int)(a:p.State≠1):DM r (p::ps) i now=DM r ps i now:=by
 rw[Sp,AOU a]
theorem Ju{r:Aa}{now:Int}(a:DL r p now=true)(c:p.State=1):DM r (p::ps) i now=if p.AX=i then put ltE ⟨IH r p now,p.As,p.Id,p.A5⟩ (DM r ps i now) else DM r ps i now:=by
 grind[Sp,AHg]
end
section
variable{r:Aa}{now turn:Int}{ps:List AQ}
theorem QP.sub{qs:List AQ}(h:QP r now turn ps)(a:qs.Sublist ps):QP r now turn qs:=
 ⟨Ar a.length_le h.few,fun p c=>h.par p (a.subset c),h.ids.sublist a,h.turns.sublist a⟩
theorem QP.set(h:QP r now turn ps){k:Nat}(E:k<ps.length){p:AQ}(G:p.Id=ps[k].Id)(y:p.As=ps[k].As)(H:p.Since=ps[k].Since)(B:DL r p now=true):QP r now turn (ps.set k p):=by
 have hT:=(h.par _ (BC E)).2;have g:∀i (hi:i<(ps.set k p).length),(ps.set k p)[i].Id=(ps[i]'(by simpa using hi)).Id/\(ps.set k p)[i].As=(ps[i]'(by simpa using hi)).As/\(ps.set k p)[i].Since=(ps[i]'(by simpa using hi)).Since:=by
  grind
 refine⟨by simpa using h.few,?_,?_,?_⟩
 .intro q e;rcases List.mem_or_eq_of_mem_set e with e|rfl
  .exact h.par q e
  .exact⟨B,by rw[y];exact hT⟩
 .rw[CJ];intro i j hi c a;rw[(g i hi).1,(g j c).1];exact CJ.1 h.ids i j _ _ a
 .rw[CJ];intro i j hi c a;have:=CJ.1 h.turns i j (by simpa using hi) (by simpa using c) a
  grind[H4]
end
theorem ATa{h:AE}{id:Int}(a:0<=FI h id):∃k,∃c:k<h.AG.length,FI h id=(k:Int)/\par h id=h.AG[k]/\(par h id).Id=id/\h.AG.eraseP (fun x=>x.Id==id)=h.AG.take k++h.AG.drop (k+1):=by
 grind[FI,Iw,par]
end Lv.P
