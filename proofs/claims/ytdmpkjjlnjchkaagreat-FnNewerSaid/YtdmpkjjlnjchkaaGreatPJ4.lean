/- Plain laws about what the program computes. -/
import Derived.Test.YtdmpkjjlnjchkaaGreatPI4
noncomputable section
set_option linter.unusedVariables false
set_option linter.unusedSimpArgs false
set_option linter.unusedSectionVars false
open Bool renaming and_eq_true->AF,and_false->DK,not_eq_true'->BR
open List renaming filterMap_cons->JP,filter_cons->Eu,flatten_append->EJ,flatten_cons->EZ,foldl_cons->B6,getElem_mem->Am,mem_cons->Ag,mem_cons_of_mem->A3,mem_cons_self->Bm,pairwise_cons->Bc,pairwise_filterMap->FV,pairwise_iff_getElem->Cl,perm_middle->LB,set_eq_take_append_cons_drop->FT
open Nat renaming add_assoc->Ce,le_succ->DB,le_trans->Au
namespace Lv.P
open Lv Go
theorem We{h:AD}{id:Int}(a:verdict h ⟨5,id,0,0,0,0⟩=0):DR h=true/\0<=Gi h id:=by
 grind[verdict,IL,LW,Gi]
def AYp(h:AD)(id:Int):AD:=FJ (JH h (par h id)) (Wo (JH h (par h id)).BC (par h id).Aa)
def P1(h:AD)(id:Int):AD×Int:=
 if verdict h ⟨5,id,0,0,0,0⟩≠0 then (h,verdict h ⟨5,id,0,0,0,0⟩) else (AYp h id,0)
theorem AGB{n:Nat}(I:n+3<=1048576){h:AD}(g:Sm n h)(id:Int):AJp h id=some (P1 h id)/\Sm (n+3) (P1 h id).1:=by
 have j:=g.fit (by omega);unfold AJp P1;rw[H9 j,AB,HT j,AB];simp only[BZ,bne_iff_ne,ne_eq];by_cases e:verdict h ⟨5,id,0,0,0,0⟩=0
 .obtain⟨E,p0⟩:=We e;obtain⟨q,y,H,B,G⟩:=y8 E p0;rw[if_neg (not_not_intro e),if_neg (not_not_intro e),HR j];simp only[AB,kC p0 (V3 p0).1,Cw,Ja,Jb,Jc,Jd,I9,Je,Jf,Ej];have a:=AYy g (par h id);show bd (ARR h (par h id)) _=_/\_;rw[cD (by omega) g q y B,AB,J4 (by have:=a.todo;omega),AB];have c:=a.mono (DB (n+2));exact⟨rfl,c.Dd,c.CS,c.EG,c.De,Au (Un _ _) (by have:=a.todo;omega),c.F4⟩
 .rw[if_pos e,if_pos e];exact⟨rfl,g.mono (by omega)⟩
theorem aD{h:AD}{id:Int}(a:verdict h ⟨2,id,0,0,0,0⟩=0):DR h=true/\0<=Gi h id:=by
 grind[verdict,IL]
def zk(h:AD)(k id:Int):AD:=C7 h k ⟨(cbn h k).AV,(cbn h k).Row.eraseP (fun x=>x.Id==id),(cbn h k).Bw⟩
def cancelled(h:AD)(id:Int):AD:=
 let p:=par h id
 if p.State=2 then gone (FJ (dropped h p) (Wo (dropped h p).BC p.Aa)) p else gone (zk h p.Aa id) p
def Uz(h:AD)(id:Int):AD×Int:=
 if verdict h ⟨2,id,0,0,0,0⟩≠0 then (h,verdict h ⟨2,id,0,0,0,0⟩) else (cancelled h id,0)
theorem AOg{h:AD}(e:Bp h){p:AK}(a:0<=p.Aa)(c:p.Aa<h.AI.length):AJe h p=some (dropped h p):=jh e a c
theorem AMn{n:Nat}(O:n+1<=1048576){h:AD}(c:Sm n h)(id:Int):nJ h id=some (Uz h id)/\Sm (n+1) (Uz h id).1:=by
 have j:=c.fit (by omega);unfold nJ Uz;rw[H9 j,AB,HT j,AB];simp only[BZ,bne_iff_ne,ne_eq];by_cases e:verdict h ⟨2,id,0,0,0,0⟩=0
 .obtain⟨J,p0⟩:=aD e;obtain⟨y,B,Q,G,L⟩:=y8 J p0;rw[if_neg (not_not_intro e),if_neg (not_not_intro e),HR j];simp only[AB,kC p0 (V3 p0).1,Cw,Ja,Jb,Jc,Jd,I9,Je,Jf,Ej,beq_iff_eq,AR];show (if (par h id).State=2 then bd (AJe h (par h id)) _ else bd (at? h.AI (par h id).Aa) _)=_/\_;unfold cancelled;dsimp only;by_cases q:(par h id).State=2
  .rw[if_pos q,if_pos q,AOg j y B,AB];have E:=P2 c (par h id);rw[J4 (by have:=E.todo;omega),AB];have a:=E.mono (DB n);have H:Sm (n+1) (FJ (dropped h (par h id)) (Wo (dropped h (par h id)).BC (par h id).Aa)):=
    ⟨a.Dd,a.CS,a.EG,a.De,Au (Un _ _) (by have:=E.todo;omega),a.F4⟩
   unfold cw;show bd (AJi (FJ (dropped h (par h id)) (Wo (dropped h (par h id)).BC (par h id).Aa)) (par h id)) _=_/\_;rw[PR (H.fit O) (by (have:(FJ (dropped h (par h id)) (Wo (dropped h (par h id)).BC (par h id).Aa)).AI.length=h.AI.length:=by simp[FJ,dropped,C7]);rw[this];exact G),AB];exact⟨rfl,o9 H _⟩
  .rw[if_neg q,if_neg q];simp only[show at? h.AI (par h id).Aa=some (cbn h (par h id).Aa) from Fg y B,show at? h.AI (h.AG.getD (Gi h id).toNat AFo).Aa=some (cbn h (par h id).Aa) from Fg y B,AB];have g:=c.cbn (par h id).Aa;show bd (ABe (cbn h (par h id).Aa).Row id) _=_/\_;rw[bz (by have:=g.row;omega),AB];have I:Sm n (zk h (par h id).Aa id):=c.cab ⟨Au (cS _ _) g.row,g.cE,g.pins⟩;unfold cw;show bd (AJi (zk h (par h id).Aa id) (par h id)) _=_/\_;rw[PR (I.fit (by omega)) (by (have:(zk h (par h id).Aa id).AI.length=h.AI.length:=by simp[zk,C7]);rw[this];exact G),AB];exact⟨rfl,(o9 I _).mono (DB n)⟩
 .rw[if_pos e,if_pos e];exact⟨rfl,c.mono (by omega)⟩
theorem aC{h:AD}{id:Int}(a:verdict h ⟨4,id,0,0,0,0⟩=0):DR h=true/\0<=Gi h id:=by
 grind[verdict,IL,LW,Gi]
def jc(h:AD)(p:AK):AD:=C7 h p.Aa ⟨(l8 (cbn h p.Aa).AV p.A2 0 (-1) 1 0).1,(cbn h p.Aa).Row,(bM (cbn h p.Aa).Bw ⟨p.Cf,p.Id⟩).1⟩
theorem Aeg{n:Nat}{h:AD}(c:Sm n h)(p:AK):Sm n (jc h p):=by
 have a:=c.cbn p.Aa;have e:=AUU a ⟨p.Cf,p.Id⟩;exact c.cab ⟨a.row,e.1,e.2⟩
def accepted(h:AD)(id:Int):AD:=
 let p:=par h id
 if 0<=p.Bl then bY (gone (jc h p) p) p.Bl p.A2 else gone (jc h p) p
def Uu(h:AD)(id:Int):AD×Int:=
 if verdict h ⟨4,id,0,0,0,0⟩≠0 then (h,verdict h ⟨4,id,0,0,0,0⟩) else (accepted h id,0)
theorem AZs(h:AD)(p:AK):(gone h p).AI.length=h.AI.length:=by grind[gone,C7]
theorem AMl{n:Nat}(O:n+1<=1048576){h:AD}(j:Sm n h)(id:Int):ABg h id=some (Uu h id)/\Sm (n+1) (Uu h id).1:=by
 have e:=j.fit (by omega);unfold ABg Uu;rw[H9 e,AB,HT e,AB];simp only[BZ,bne_iff_ne,ne_eq];by_cases c:verdict h ⟨4,id,0,0,0,0⟩=0
 .obtain⟨H,p0⟩:=aC c;obtain⟨q,y,L,B,J⟩:=y8 H p0;rw[if_neg (not_not_intro c),if_neg (not_not_intro c),HR e];have I:=(e.De _ (cK q y)).2;have G:=Aeg j (par h id);have E:(jc h (par h id)).AI.length=h.AI.length:=by simp[jc,C7]
  simp only[AB,kC p0 (V3 p0).1,show at? h.AI (h.AG.getD (Gi h id).toNat AFo).Aa=some (cbn h (par h id).Aa) from Fg q y,Cw,Ja,Jb,Jc,Jd,I9,Je,Jf,Ej,zV,cB I,AR,BA,ge_iff_le,decide_eq_true_eq];rw[B9 ⟨rfl,⟨by omega,by omega⟩,trivial⟩];show bd (AJi (jc h (par h id)) (par h id)) _=_/\_;rw[PR (G.fit (by omega)) (by rw[E];exact B),AB];have g:=o9 G (par h id);unfold accepted Atb;dsimp only;by_cases a:0<=(par h id).Bl
  .rw[if_pos a];show (if 0<=(par h id).Bl then bd (ABf (gone (jc h (par h id)) (par h id)) (par h id).Bl (par h id).A2) _ else _)=_/\_;rw[if_pos a,ji (g.fit (by omega)) a (by rw[AZs,E];exact B),AB];exact⟨rfl,ALW g _ _⟩
  .rw[if_neg a];show (if 0<=(par h id).Bl then _ else _)=_/\_;rw[if_neg a];exact⟨rfl,g.mono (DB n)⟩
 .rw[if_pos c,if_pos c];exact⟨rfl,j.mono (by omega)⟩
def Ul(h:AD)(i:Nat):AD:=
 let x:=C7 h i ⟨(cbn h i).AV,D3 h.AO h.AG i h.Now,(cbn h i).Bw⟩
 if 0<DQ h.AG i then FJ x (Wo h.BC i) else x
def Ro:Nat->Nat->AD->AD|0,_,h=>h|k+1,i,h=>Ro k (i+1) (Ul h i)
theorem ADI(h:AD)(i:Nat):(Ul h i).AI.length=h.AI.length:=by grind[Ul,C7,FJ]
theorem zg{n:Nat}{h:AD}(c:Sm n h)(i:Nat):Sm (n+1) (Ul h i):=by
 have e:=c.cbn (i:Int);have g:(D3 h.AO h.AG (i:Int) h.Now).length<=n:=by
  unfold D3;rw[IG];exact Au (List.length_filterMap_le _ _) c.CS
 have j:Sm n (C7 h i ⟨(cbn h i).AV,D3 h.AO h.AG i h.Now,(cbn h i).Bw⟩):=c.cab ⟨g,e.cE,e.pins⟩;have a:=j.mono (DB n);unfold Ul;dsimp only;split
 .exact⟨a.Dd,a.CS,a.EG,a.De,Au (Un _ _) (by have:=c.todo;omega),a.F4⟩
 .exact a
theorem Ach{n:Nat}{h:AD}(B:Sm n h)(H:n+h.AI.length<=1048576):A4 AJr big (0,h)=some (Ro h.AI.length 0 h,0):=by
 generalize a:h.AI.length=len at *;refine(C6 (F:=AJr) (n:=len) (fun i (v:AD)=>((i:Int),v)) (fun i v=>Sm (n+i) v/\v.AI.length=len) (fun i v=>some (Ro (len-i) i v,0)) (by omega) ?_ (v:=h) ⟨B,a⟩).trans (by rw[Nat.sub_zero]);intro L i v ⟨y,c⟩ hi G;have j:=y.fit (by omega);unfold AJr;dsimp only;rw[c];rcases Nat.lt_or_ge i len with g|g
 .have I:=j.Dd;have E:=j.CS;rw[CC g,BH,PQ (by omega) E,AB,Fg (by omega) (by omega),AB,AB,PM (by omega),AB];have e:Ro (len-i) i v=Ro (len-(i+1)) (i+1) (Ul v i):=by rw[show len-i=(len-(i+1))+1 by omega];rfl
  rw[e];have q:=G (Ul v i) ⟨by have:=zg y i;rw[Ce]at this;exact this,by rw[ADI];exact c⟩ g;rw[<-q];unfold ta Ul;simp only[BA,gt_iff_lt,AR,BU g (show len<2 ^ 63 by omega),Int.toNat_natCast,J4 j.todo,AB];split<;>rfl
 .have:i=len:=by omega
  subst this;rw[Cp,BN,AR,Nat.sub_self];rfl
def Agg(h:AD):AD:=Ro h.AI.length 0 ⟨h.AO,w64 (h.Now+1),h.Ap,h.AG,h.AI,h.BC,h.A8⟩
def zh(h:AD):AD×Int:=
 if verdict h ⟨6,0,0,0,0,0⟩≠0 then (h,verdict h ⟨6,0,0,0,0,0⟩) else (Agg h,0)
theorem AMy:∀(k i:Nat) {n:Nat} {h:AD},Sm n h->Sm (n+k) (Ro k i h)|0,_,_,_,a=>a|k+1,i,n,h,a=>by have:=AMy k (i+1) (zg a i);rw[Ce,Nat.add_comm 1 k]at this;exact this
theorem AXF{n:Nat}{h:AD}(a:Sm n h)(j:n+h.AI.length<=1048576):ABh h=some (zh h)/\Sm (n+h.AI.length) (zh h).1:=by
 have g:=a.fit (by omega);unfold ABh zh;rw[H9 g,AB,HT g,AB];simp only[BZ,bne_iff_ne,ne_eq];have e:Sm n ⟨h.AO,w64 (h.Now+1),h.Ap,h.AG,h.AI,h.BC,h.A8⟩:=⟨a.Dd,a.CS,a.EG,a.De,a.todo,a.F4⟩;by_cases c:verdict h ⟨6,0,0,0,0,0⟩=0
 .rw[if_neg (not_not_intro c),if_neg (not_not_intro c),Ach e j];exact⟨rfl,AMy _ _ e⟩
 .rw[if_pos c,if_pos c];exact⟨rfl,a.mono (by omega)⟩
def wg(w:An)(now:Int):List Int:=(Eo w).filterMap fun p=>if p.At<=now then some p.Id else none
theorem AGH{w:An}(a:C1 w)(now:Int):CG w now=some ((Eo w).filter fun p=>decide (p.At<=now)):=by
 have hlim:lim=268435456:=rfl;have c:=Io a;unfold CG;rw[N6 a,AB,collect (l:=Eo w) (fun p=>if p.At<=now then some p else none) some c ?_ ?_]
 .congr 1;generalize Eo w=l
  induction l with
  |nil=>rfl|cons p l e=>
   grind
 .grind[Atd,Atc,A7,AB,BA,AR,B9]
 grind[Atd,Awf,BN,AR]
theorem AMr{h:AD}(g:Bp h){k:Int}(a:0<=k)(c:k<h.AI.length):ABi h k=some (wg (cbn h k).Bw h.Now):=by
 have hlim:lim=268435456:=rfl;have e:=(g.De _ (cK a c)).2;have j:=Io e;unfold ABi;rw[Fg a c,AB];show bd (CG (cbn h k).Bw h.Now) _=_;rw[AGH e,AB];generalize hD:(Eo (cbn h k).Bw).filter (fun p=>decide (p.At<=h.Now))=D;have hDl:D.length<=1048576:=by rw[<-hD];exact Au (List.length_filter_le _ _) j
 rw[collect (l:=D) (fun p=>some p.Id) some hDl ?_ ?_]
 .unfold wg;rw[<-hD];congr 1;generalize Eo (cbn h k).Bw=l
  induction l with
  |nil=>rfl|cons p l q=>
   grind
 .grind[AJt,BH,A7,AB,B9]
 grind[AJt,AJs,BN,AR]
section
variable{α:Type}{lt:α->α->Bool}
theorem jK(a:α):∀l:List α,(put lt a l).Perm (a::l)
 | []=>.refl _|z::l=>by
  unfold put;split
  .exact((jK a l).cons z).trans (.swap a z l)
  .exact .refl _
theorem Pf:∀l:List α,(DX lt l).Perm l| []=>.refl _|a::l=>(jK a _).trans ((Pf l).cons a)
def WN(lt:α->α->Bool)(l:List α):Prop:=l.Pairwise fun a b=>lt a b=true\/lt b a=true
theorem WN.perm{a c:List α}(h:WN lt a)(e:a.Perm c):WN lt c:=(e.pairwise_iff (fun h=>h.symm)).1 h
theorem N5(h:Swo lt){l:List α}(q:WN lt l):(DX lt l).Pairwise fun a b=>lt a b=true:=by
 have c:(DX lt l).Pairwise fun a b=>lt b a=false:=aX h l
 have e:WN lt (DX lt l):=q.perm (Pf (lt:=lt) l).symm;exact(c.and e).imp fun {a b} ⟨g,j⟩=>j.resolve_right (by rw[g];simp)
theorem ADB(h:Swo lt):∀{g j:List α},(g.Pairwise fun a b=>lt a b=true)->(j.Pairwise fun a b=>lt a b=true)->g.Perm j->g=j
 | [],j,_,_,c=>c.nil_eq|a::g,[],_,_,c=>by cases c.eq_nil
 |a::g,b::j,q,y,c=>by
  rw[Bc]at q y;by_cases e:a=b
  .subst e;rw[ADB h q.2 y.2 c.cons_inv]
  .have E:a∈j:=(Ag.1 (c.subset (Bm ..))).resolve_left e;have B:b∈g:=(Ag.1 (c.symm.subset (Bm ..))).resolve_left (Ne.symm e);have:=h.ADY _ _ (q.1 b B)
   grind
theorem Aeh(h:Swo lt){a c:List α}(e:WN lt a)(g:a.Perm c):DX lt a=DX lt c:=
 ADB h (N5 h e) (N5 h (e.perm g)) ((Pf a).trans (g.trans (Pf c).symm))
end
structure Uni(ps:List AK):Prop where
 id:ps.Pairwise fun p q=>p.Id≠q.Id
 turn:ps.Pairwise fun p q=>p.Ap≠q.Ap
theorem Uni.perm{a b:List AK}(h:Uni a)(c:a.Perm b):Uni b:=⟨(c.pairwise_iff (fun h=>Ne.symm h)).1 h.id,(c.pairwise_iff (fun h=>Ne.symm h)).1 h.turn⟩
theorem Uni.tail{p:AK}{b:List AK}(h:Uni (p::b)):Uni b:=⟨(Bc.1 h.id).2,(Bc.1 h.turn).2⟩
theorem U6{r:AZ}{now:Int}{p:AK}(a:D9 r p now=true)(c:p.State=1):Ez r p now=(⟨JI r p now,p.Ap,p.Id,p.A2⟩,true):=by
 grind[Ez]
theorem nQ{r:AZ}{now:Int}{p:AK}(h:¬(D9 r p now=true/\p.State=1)):Ez r p now=(⟨0,0,0,0⟩,false):=by
 unfold Ez;rw[if_neg h]
theorem LN{r:AZ}{c now:Int}{p:AK}{e:Ad}(h:ML r c now p=some e):e=⟨JI r p now,p.Ap,p.Id,p.A2⟩/\D9 r p now=true/\p.State=1/\p.Aa=c:=by
 grind[ML,U6,nQ]
theorem AVd{r:AZ}{now:Int}{p:AK}(a:D9 r p now=true)(e:p.State=1)(c:Int):ML r c now p=if p.Aa=c then some ⟨JI r p now,p.Ap,p.Id,p.A2⟩ else none:=by
 unfold ML;rw[U6 a e];simp
theorem Aav{r:AZ}{c now:Int}{p:AK}(a:p.State≠1):ML r c now p=none:=by
 grind[ML,nQ]
theorem ak{c:Int}{p:AK}{e:A6}(h:Nu c p=some e):e=⟨p.Cf,p.Id⟩/\p.State=2/\p.Aa=c:=by
 grind[Nu]
theorem AXq{ps:List AK}(h:Uni ps)(r:AZ)(c now:Int):WN ltE (ps.filterMap (ML r c now)):=by
 unfold WN;rw[FV];refine h.turn.imp ?_;intro p q j a e b g;obtain⟨rfl,_⟩:=LN e;obtain⟨rfl,_⟩:=LN g
 grind[aY]
theorem AMJ{ps a:List AK}(h:Uni ps)(e:ps.Perm a)(r:AZ)(c now:Int):D3 r ps c now=D3 r a c now:=Aeh pC (AXq h r c now) (e.filterMap _)
theorem dV{ps a:List AK}(e:ps.Perm a)(c:Int):GJ ps c=GJ a c:=yC FG pD (e.filterMap _)
theorem Zr(r:AZ)(p:AK)(ps:List AK)(c now:Int):D3 r (p::ps) c now=match ML r c now p with|some e=>put ltE e (D3 r ps c now)|none=>D3 r ps c now:=by
 unfold D3;rw[JP];cases ML r c now p<;>rfl
theorem dU(p:AK)(ps:List AK)(c:Int):GJ (p::ps) c=match Nu c p with|some e=>put ltP e (GJ ps c)|none=>GJ ps c:=by
 unfold GJ;rw[JP];cases Nu c p<;>rfl
theorem P6(f:AK->Int)(g:Int->AK->Int)(a:∀n p,g n p=n+f p):∀(l:List AK) (n:Int),l.foldl g n=n+l.foldl g 0| [],n=>by simp|p::l,n=>by rw[B6,B6,P6 f g a l,P6 f g a l (g 0 p),a,a];omega
def iZ(c:Int)(p:AK):Int:=if ((p.State==2)&&((p.Aa==c)&&inB p.A2 1 6))=true then p.A2 else 0
def ADJ(c:Int)(p:AK):Int:=if ((p.Bl==c)&&inB p.A2 1 6)=true then p.A2 else 0
def AdU(c:Int)(p:AK):Int:=if (p.Aa==c)=true then 1 else 0
theorem ATk(c n:Int)(p:AK):bc c n p=n+iZ c p:=by grind[bc,iZ]
theorem AUO(c n:Int)(p:AK):cF c n p=n+ADJ c p:=by grind[cF,ADJ]
theorem AG8(c n:Int)(p:AK):OA c n p=n+AdU c p:=by grind[OA,AdU]
theorem Qd(p:AK)(ps:List AK)(c:Int):Jk (p::ps) c=iZ c p+Jk ps c:=by
 unfold Jk;rw[B6,P6 _ _ (ATk c),ATk];omega
theorem dn(p:AK)(ps:List AK)(c:Int):KE (p::ps) c=ADJ c p+KE ps c:=by
 unfold KE;rw[B6,P6 _ _ (AUO c),AUO];omega
theorem m9(p:AK)(ps:List AK)(c:Int):DQ (p::ps) c=AdU c p+DQ ps c:=by
 unfold DQ;rw[B6,P6 _ _ (AG8 c),AG8];omega
theorem zb{F:List AK->Int}{f:AK->Int}(hF:∀p l,F (p::l)=f p+F l){a b:List AK}(g:a.Perm b):F a=F b:=by
 induction g with
 |nil=>rfl|cons x _ h=>rw[hF,hF,h]|swap x y l=>rw[hF,hF,hF,hF];omega|trans _ _ c e=>exact c.trans e
theorem AOV{a b:List AK}(e:a.Perm b)(c:Int):Jk a c=Jk b c:=zb (F:=fun l=>Jk l c) (fun p l=>Qd p l c) e
theorem APr{a b:List AK}(e:a.Perm b)(c:Int):KE a c=KE b c:=zb (F:=fun l=>KE l c) (fun p l=>dn p l c) e
theorem Wx{a b:List AK}(e:a.Perm b)(c:Int):DQ a c=DQ b c:=zb (F:=fun l=>DQ l c) (fun p l=>m9 p l c) e
theorem APh{F:List AK->Int}{f:AK->Int}(c:F []=0)(hF:∀p l,F (p::l)=f p+F l)(a:∀p,0<=f p):∀l,0<=F l| []=>by omega|p::l=>by have:=a p;have:=APh c hF a l;rw[hF];omega
theorem AZz(c:Int)(p:AK):0<=iZ c p:=by
 grind[iZ,CY]
theorem Aci(c:Int)(p:AK):0<=ADJ c p:=by
 grind[ADJ,CY]
theorem ALb(l:List AK)(c:Int):0<=Jk l c:=APh (F:=fun l=>Jk l c) rfl (fun p l=>Qd p l c) (AZz c) l
theorem Acj(l:List AK)(c:Int):0<=KE l c:=APh (F:=fun l=>KE l c) rfl (fun p l=>dn p l c) (Aci c) l
def wOf(S:List A6):An:=⟨(List.range 9).map fun i=>S.filter (GI i)⟩
theorem pK(S:List A6):(wOf S).Ak.length=9:=by simp[wOf]
theorem AGZ(S:List A6){i:Nat}(h:i<(wOf S).Ak.length):(wOf S).Ak[i]=S.filter (GI i):=by simp[wOf]
theorem Acz(S:List A6){i:Nat}(h:i<9):(wOf S).Ak.getD i []=S.filter (GI i):=by
 rw[List.getD_eq_getElem?_getD,List.getElem?_eq_getElem (by rw[pK];exact h),Option.getD_some,AGZ]
theorem AGa{S T:List A6}{k:Nat}(a:k<9)(h:∀i,i<9->i≠k->T.filter (GI i)=S.filter (GI i)):(⟨(wOf S).Ak.set k (T.filter (GI k))⟩:An)=wOf T:=by
 unfold wOf;congr 1;apply List.ext_getElem
 .simp
 grind
theorem zq:∀{S:List A6},(∀p∈S,1<=p.At)->(wOf S).Ak.flatten.Perm S
 | [],_=>by simp[wOf]|p::S,h=>by
  obtain⟨k,c,e⟩:=oB (h p (Bm ..));have G:=zq (S:=S) fun q E=>h q (A3 _ E)
  have a:GI k p=true:=LK.2 e;have j:=AGa (S:=S) (T:=p::S) c (by
   intro i hi B;have:GI i p=false:=by
    grind[GI]
   simp[Eu,this])
  rw[<-j];have g:k<(wOf S).Ak.length:=by rw[pK];exact c
  have y:(p::S).filter (GI k)=p::(wOf S).Ak[k]:=by rw[AGZ];simp[Eu,a]
  rw[y];dsimp only;rw[FT,if_pos g,EJ,EZ,List.cons_append];refine(LB).trans (List.Perm.cons p ?_);rw[<-EZ,<-EJ,<-DW g,List.take_append_drop];exact G
structure TQ(S:List A6):Prop where
 few:S.length<=10
 pins:∀p∈S,V1 p=true
 ids:S.Pairwise fun a b=>a.Id≠b.Id
 srt:S.Pairwise fun a b=>ltP a b=true
theorem zr{S:List A6}(h:TQ S):Rs (wOf S):=by
 have c:=zq fun p c=>(PH (h.pins p c)).1.1
 refine⟨pK S,by rw[c.length_eq];exact h.few,fun p e=>h.pins p (c.subset e),(c.pairwise_iff (fun h=>Ne.symm h)).2 h.ids,?_,?_⟩
 .grind[wOf,GI]
 .intro i hi k j;have g:(S.filter (GI i)).Pairwise fun a b=>ltP a b=true:=h.srt.filter _
  grind[AGZ,List.pairwise_iff_getElem]
theorem ANB{S:List A6}(h:TQ S):Eo (wOf S)=S:=by
 have a:=zq fun p a=>(PH (h.pins p a)).1.1
 unfold Eo;rw[if_pos (Du.2 (zr h)),yC FG pD a,UB FG h.srt]
theorem Agm{w:An}(a:HE w=true):w=wOf (Eo w):=by
 unfold Eo;rw[if_pos a];exact mn (Du.1 a)
structure jz(r:AZ)(ps:List AK)(now:Int)(i:Nat)(c:AY):Prop where
 row:c.Row=D3 r ps i now
 Hp:c.Bw=wOf (GJ ps i)
 total:c.AV.Total=r.AV.getD i 0
 held:c.AV.EH=Jk ps i
 K6:c.AV.E8=KE ps i
 led:Eh c.AV=true
 room:DQ ps i<=r.Room
structure Wh(r:AZ)(now turn:Int)(ps:List AK):Prop where
 few:ps.length<=40
 par:∀p∈ps,D9 r p now=true/\p.Ap<turn
 ids:ps.Pairwise fun p q=>p.Id<q.Id
 turns:ps.Pairwise fun p q=>I4 p q=false
structure RH(h:AD):Prop where
 rules:Dp h.AO=true
 now:0<=h.Now/\h.Now<=1000000
 turn:1<=h.Ap/\h.Ap<=1000001
 EG:h.AI.length=h.AO.AV.length
 Ly:Wh h.AO h.Now h.Ap h.AG
 cab:∀i (hi:i<h.AI.length),jz h.AO h.AG h.Now i h.AI[i]
 todo:Jw h.BC h.AI.length=true
 F4:Nq h.A8 h.AI.length=true
 Wm:(h.A8.length:Int)=h.AO.Cs
theorem AX4{p q:AK}(h:I4 p q=false):p.Ap≠q.Ap:=by
 grind[I4]
theorem Wh.uni{r:AZ}{now turn:Int}{ps:List AK}(h:Wh r now turn ps):Uni ps:=⟨h.ids.imp fun h=>by omega,h.turns.imp fun h=>AX4 h⟩
theorem yP:Swo Lw:=⟨fun a b h=>by unfold Lw at *;simp only[decide_eq_true_eq,decide_eq_false_iff_not]at *;omega,fun a b c h=>by unfold Lw at *;simp only[decide_eq_true_eq]at *;omega⟩
theorem nn{h:AD}:L0 h=true↔(∀p∈h.AG,D9 h.AO p h.Now=true/\p.Ap<h.Ap)/\(h.AG.Pairwise fun p q=>p.Id<q.Id)/\h.AG.Pairwise fun p q=>I4 p q=false:=by
 have a:∀i (hi:i<h.AG.length),nj h i=true↔D9 h.AO h.AG[i] h.Now=true/\h.AG[i].Ap<h.Ap/\(∀j (c:j<h.AG.length),j+1=i->h.AG[j].Id<h.AG[i].Id)/\∀j (c:j<i),I4 h.AG[j] h.AG[i]=false:=by
  grind[nj,Cc,KD]
 grind[L0,KD,List.mem_iff_getElem,Pr,Lw,yP,List.pairwise_iff_getElem]
theorem AaN{r:AZ}{p:AK}{now:Int}(h:D9 r p now=true):0<=JI r p now/\JI r p now<=4:=by
 have c:=FM h;have j:=CT c.1;have a:=ACc r p.Cj (w64 (now-p.Since));unfold JI;rw[if_pos h];refine⟨a,?_⟩;unfold mH;rw[Ai (n:=now-p.Since) (by omega) (by omega)];have e:0<=(now-p.Since).tdiv r.CB:=Int.tdiv_nonneg (by omega) (by omega);have g:(now-p.Since).tdiv r.CB<=now-p.Since:=by rw[Int.tdiv_eq_ediv_of_nonneg (by omega)];exact Int.ediv_le_self _ (by omega)
 grind[Ai]
theorem V6{r:AZ}{ps:List AK}{c now:Int}{e:Ad}(h:e∈D3 r ps c now):∃p∈ps,ML r c now p=some e:=by
 grind[D3,UC]
theorem ACh{ps:List AK}{c:Int}{e:A6}(h:e∈GJ ps c):∃p∈ps,Nu c p=some e:=by
 grind[GJ,UC]
theorem APM{r:AZ}{ps:List AK}(h:Uni ps)(c now:Int):(D3 r ps c now).Pairwise fun a b=>a.Id≠b.Id:=by
 refine((Pf _).pairwise_iff (fun h=>Ne.symm h)).2 ?_;rw[FV];refine h.id.imp ?_;intro p q e a g b j;obtain⟨rfl,_⟩:=LN g;obtain⟨rfl,_⟩:=LN j;exact e
theorem V5(r:AZ)(ps:List AK)(c now:Int):((D3 r ps c now).length:Int)<=DQ ps c:=by
 unfold D3;rw[IG];exact o6 _ c (by intro p h;unfold ML;rw[h,DK];rfl) ps
theorem AVZ(ps:List AK)(c:Int):((GJ ps c).length:Int)<=DQ ps c:=by
 unfold GJ;rw[IG];exact o6 _ c (by intro p h;unfold Nu;rw[h,DK];rfl) ps
theorem AMK{r:AZ}{ps:List AK}{now turn:Int}(y:Wh r now turn ps){c:Int}(J:DQ ps c<=10):MC (D3 r ps c now)=true:=by
 have L:=y.uni;have I:=V5 r ps c now;unfold MC;rw[AF,KD];refine⟨by simp;omega,?_⟩;intro k g;unfold qAt;rw[Cc g];obtain⟨p,B,j⟩:=V6 (Am g);obtain⟨h,e,G,H⟩:=LN j;have q:=AaN e;have a:=FM e;have E:=CT a.1;simp only[AF,BR,decide_eq_false_iff_not];refine⟨?_,?_,?_⟩
 .rw[h];unfold AYu;simp only[AF,CY];omega
 .grind[Cc,D3,List.pairwise_iff_getElem,N5,pC,AXq]
 .have:atF (fun x:Ad=>x.Id==(D3 r ps c now)[k].Id) ((D3 r ps c now).take k) 0<0:=by
   rw[pV]
   grind[List.mem_iff_getElem,List.pairwise_iff_getElem,APM]
  omega
theorem jI{r:AZ}{ps:List AK}{now turn:Int}(B:Wh r now turn ps){c:Int}(Q:DQ ps c<=10):TQ (GJ ps c):=by
 have O:=AVZ ps c;have g:(ps.filterMap (Nu c)).Pairwise fun a b=>a.Id≠b.Id:=by
  rw[FV];refine B.uni.id.imp ?_;intro p q j a E b G;obtain⟨rfl,_⟩:=ak E;obtain⟨rfl,_⟩:=ak G;exact j
 refine⟨by omega,?_,((Pf _).pairwise_iff (fun h=>Ne.symm h)).2 g,N5 FG (g.imp ?_)⟩
 .intro e H;obtain⟨p,y,I⟩:=ACh H;obtain⟨rfl,J,_⟩:=ak I;have L:=FM (B.par p y).1
  grind[CT,V1,CY]
 grind[ltP]
theorem IF{h:AD}:DR h=true↔RH h:=by
 constructor
 .intro Y;obtain⟨G,H,I,J,L,O,Q,S,X,q⟩:=J0 Y;obtain⟨y,B,E⟩:=nn.1 O;refine⟨G,H,I,L,⟨J,y,B,E⟩,?_,Q,S,X⟩;intro i hi;have j:i<h.AO.AV.length:=by omega
  have c:=KD.1 q i hi;unfold eJ at c;rw[Cc hi,Cc j]at c;unfold Ki Mg at c;simp only[AF,beq_iff_eq,BR,decide_eq_false_iff_not,IK ou,IK oz]at c;obtain⟨k1,⟨⟨l1,k3,k4⟩,k5,k6,k7,k8⟩,k9⟩:=c;refine⟨k5,?_,?_,k7,k8,l1,by omega⟩
  .rw[<-k6];exact Agm k4
  .rw[k1];simp[List.getD,j]
 .intro hR;unfold DR;have Z:=CT hR.rules;simp only[AF,CY,BR,decide_eq_false_iff_not,beq_iff_eq];refine⟨hR.rules,hR.now,hR.turn,by have:=hR.Ly.few;omega,by rw[hR.EG],nn.2 ⟨hR.Ly.par,hR.Ly.ids,hR.Ly.turns⟩,⟨hR.todo,hR.F4,hR.Wm⟩,?_⟩;unfold O7;rw[KD];intro i hi;have j:i<h.AO.AV.length:=by have:=hR.EG;omega
  have a:=hR.cab i hi;have g:DQ h.AG i<=10:=by have:=a.room;omega
  have e:=jI hR.Ly g;unfold eJ Ki Mg;rw[Cc hi,Cc j];simp only[AF,beq_iff_eq,BR,decide_eq_false_iff_not,IK ou,IK oz];refine⟨?_,⟨⟨a.led,?_,?_⟩,a.row,?_,a.held,a.K6⟩,by have:=a.room;omega⟩
  .rw[a.total];simp[List.getD,j]
  .rw[a.row];exact AMK hR.Ly g
  .rw[a.Hp];exact Du.2 (zr e)
  .rw[a.Hp];exact ANB e
theorem H3{l:A9}:Eh l=true↔(1<=l.Total/\l.Total<=60)/\(0<=l.DT/\l.DT<=l.Total)/\(0<=l.EH/\l.EH<=l.Total)/\(0<=l.Ep/\l.Ep<=l.Total)/\l.DT+l.EH+l.Ep=l.Total/\0<=l.E8/\l.E8<=l.Ep:=by
 grind[Eh,CY,Ai]
theorem ATr{l:A9}(q:Eh l=true){n a b c d:Int}(J:0<=n/\n<=60)(e:a = -1\/a=0\/a=1)(g:b = -1\/b=0\/b=1)(h:c = -1\/c=0\/c=1)(j:d = -1\/d=0\/d=1)
 (H:Eh ⟨l.Total,l.DT+a*n,l.EH+b*n,l.Ep+c*n,l.E8+d*n⟩=true):l8 l n a b c d=(⟨l.Total,l.DT+a*n,l.EH+b*n,l.Ep+c*n,l.E8+d*n⟩,true):=by
 have I:=H3.1 q;have w:∀a x:Int,(a = -1\/a=0\/a=1)->0<=x->x<=60->w64 (x+w64 (a*n))=x+a*n:=by
  grind[Ai]
 have y:=w a l.DT e (by omega) (by omega);have B:=w b l.EH g (by omega) (by omega);have E:=w c l.Ep h (by omega) (by omega);have G:=w d l.E8 j (by omega) (by omega);unfold l8
 grind[CY]
section
variable{α:Type}{lt:α->α->Bool}
theorem aP{p:α->Bool}{a:α}(c:p a=true):∀{l:List α},(∀x∈l,p x=false)->(put lt a l).eraseP p=l
 | [],_=>by simp[put,c]|z::l,h=>by
  unfold put;split
  .rw[List.eraseP_cons_of_neg (by rw[h z (Bm ..)];simp),aP c fun x e=>h x (A3 _ e)]
  .rw[List.eraseP_cons_of_pos c]
theorem AT6(a:α):∀l:List α,l.Sublist (put lt a l)
 | []=>List.nil_sublist _|z::l=>by
  unfold put;split
  .exact(AT6 a l).cons_cons z
  .exact List.sublist_cons_self ..
theorem ANd{p:α->Bool}{l:List α}{k:Nat}(a:k<l.length)(e:l.eraseP p=l.take k++l.drop (k+1)):l.Perm (l[k]::l.eraseP p):=by
 grind[DW,List.take_append_drop,List.perm_middle]
theorem set_perm{p:α->Bool}{l:List α}{k:Nat}(c:k<l.length)(e:l.eraseP p=l.take k++l.drop (k+1))(a:α):(l.set k a).Perm (a::l.eraseP p):=by
 rw[e,FT,if_pos c];exact LB
end
theorem TQ.sub{S T:List A6}(h:TQ T)(a:S.Sublist T):TQ S:=⟨Au a.length_le h.few,fun p c=>h.pins p (a.subset c),h.ids.sublist a,h.srt.sublist a⟩
theorem Ad6{p x:A6}:isP p x=true↔x=p:=by
 unfold isP;obtain⟨a,b⟩:=p;obtain⟨c,d⟩:=x;simp
theorem yp{S:List A6}{p:A6}(h:TQ (put ltP p S)):V1 p=true/\TQ S/\∀x∈S,isP p x=false:=by
 have c:=h.sub (AT6 p S);refine⟨h.pins p (au.2 (.inl rfl)),c,fun x e=>?_⟩;cases a:isP p x with
 |false=>rfl|true=>
  rw[Ad6]at a;subst a;have:=((jK (lt:=ltP) x S).pairwise_iff (fun h=>Ne.symm h)).1 h.ids
  grind[List.pairwise_cons]
theorem AUT{S:List A6}{p:A6}(h:TQ (put ltP p S)){k:Nat}(c:k<9)(e:p.At.tmod 9=(k:Int)):(put ltP p S).filter (GI k)=put ltP p (S.filter (GI k))/\∀i,i<9->i≠k->(put ltP p S).filter (GI i)=S.filter (GI i):=by
 have g:Srt ltP S:=(yp h).2.1.srt.imp fun {a b} h=>FG.ADY _ _ h
 grind[cV,FG,LK]
theorem Aet{S:List A6}{p:A6}(h:TQ (put ltP p S)):bM (wOf (put ltP p S)) p=(wOf S,true):=by
 grind[yp,PH,AUT,isP,bM,Du,zr,Acz,aP,AGa,au]
theorem Aeu{S:List A6}{p:A6}(h:TQ (put ltP p S)):PU (wOf S) p=(wOf (put ltP p S),true):=by
 obtain⟨a,y,B⟩:=yp h;have g:=(PH a).1.1;obtain⟨k,c,e⟩:=oB g;obtain⟨j,q⟩:=AUT h c e
 grind[dt,wOf,Int.toNat_natCast,AGa,PU,Du,zr]
section
variable{p:AK}{ps:List AK}(i:Int)
theorem J5(h:1<=p.A2/\p.A2<=6):KE (p::ps) i=(if p.Bl=i then p.A2 else 0)+KE ps i:=by
 rw[dn];unfold ADJ
 grind[inB]
theorem JT:DQ (p::ps) i=(if p.Aa=i then 1 else 0)+DQ ps i:=by
 rw[m9];unfold AdU;simp
theorem T8(a:p.State≠2):Jk (p::ps) i=Jk ps i:=by
 rw[Qd];unfold iZ;simp[a]
theorem lg(a:p.State=2)(h:1<=p.A2/\p.A2<=6):Jk (p::ps) i=(if p.Aa=i then p.A2 else 0)+Jk ps i:=by
 rw[Qd];unfold iZ
 grind[inB]
theorem UW(a:p.State≠2):GJ (p::ps) i=GJ ps i:=by
 rw[dU];unfold Nu;simp[a]
theorem aj(a:p.State=2):GJ (p::ps) i=if p.Aa=i then put ltP ⟨p.Cf,p.Id⟩ (GJ ps i) else GJ ps i:=by
 grind[dU,Nu]
theorem dX(r:AZ)(now:Int)(a:p.State≠1):D3 r (p::ps) i now=D3 r ps i now:=by
 rw[Zr,Aav a]
theorem ND{r:AZ}{now:Int}(a:D9 r p now=true)(c:p.State=1):D3 r (p::ps) i now=if p.Aa=i then put ltE ⟨JI r p now,p.Ap,p.Id,p.A2⟩ (D3 r ps i now) else D3 r ps i now:=by
 grind[Zr,AVd]
end
section
variable{r:AZ}{now turn:Int}{ps:List AK}
theorem Wh.sub{c:List AK}(h:Wh r now turn ps)(a:c.Sublist ps):Wh r now turn c:=
 ⟨Au a.length_le h.few,fun p e=>h.par p (a.subset e),h.ids.sublist a,h.turns.sublist a⟩
theorem Wh.set(h:Wh r now turn ps){k:Nat}(E:k<ps.length){p:AK}(G:p.Id=ps[k].Id)(y:p.Ap=ps[k].Ap)(H:p.Since=ps[k].Since)(B:D9 r p now=true):Wh r now turn (ps.set k p):=by
 have hT:=(h.par _ (Am E)).2;have g:∀i (hi:i<(ps.set k p).length),(ps.set k p)[i].Id=(ps[i]'(by simpa using hi)).Id/\(ps.set k p)[i].Ap=(ps[i]'(by simpa using hi)).Ap/\(ps.set k p)[i].Since=(ps[i]'(by simpa using hi)).Since:=by
  grind
 refine⟨by simpa using h.few,?_,?_,?_⟩
 .intro q e;rcases List.mem_or_eq_of_mem_set e with e|rfl
  .exact h.par q e
  .exact⟨B,by rw[y];exact hT⟩
 .rw[Cl];intro i j hi c a;rw[(g i hi).1,(g j c).1];exact Cl.1 h.ids i j _ _ a
 .rw[Cl];intro i j hi c a;have:=Cl.1 h.turns i j (by simpa using hi) (by simpa using c) a
  grind[I4]
end
theorem AgN{h:AD}{id:Int}(a:0<=Gi h id):∃k,∃c:k<h.AG.length,Gi h id=(k:Int)/\par h id=h.AG[k]/\(par h id).Id=id/\h.AG.eraseP (fun x=>x.Id==id)=h.AG.take k++h.AG.drop (k+1):=by
 grind[Gi,Jz,par]
end Lv.P
