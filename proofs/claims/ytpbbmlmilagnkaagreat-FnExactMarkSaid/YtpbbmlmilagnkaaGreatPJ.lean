/- Plain laws about what the program computes. -/
import Derived.Test.YtpbbmlmilagnkaaGreatPI
set_option linter.unusedVariables false
set_option linter.unusedSimpArgs false
set_option linter.unusedSectionVars false
open Bool renaming and_false->CW
open List renaming filter_cons->Dj,flatten_append->Gn,flatten_cons->DX,foldl_cons->BV,mem_cons->Af,mem_cons_self->BZ,pairwise_cons->BI,pairwise_filterMap->Fo,pairwise_iff_getElem->Bw,perm_middle->Hf,set_eq_take_append_cons_drop->D8
open Nat renaming le_trans->Bv
namespace Lv.P
open Lv Go
def AL8(h:AH)(i:Nat):AH:=
 let x:=Mp h i ⟨(cbn h i).Ae,Gw h.AR h.AK i h.Now,(cbn h i).DW⟩
 if 0<D2 h.AK i then MF x (ADC h.BO i) else x
def AAO:Nat->Nat->AH->AH|0,_,h=>h|k+1,i,h=>AAO k (i+1) (AL8 h i)
noncomputable def AMa(w:Aq)(now:Int):List Int:=(JM w).filterMap fun p=>if p.At<=now then some p.Id else none
section
variable{α:Type}{lt:α->α->Bool}
theorem oT(a:α):∀l:List α,(put lt a l).Perm (a::l)
 | []=>.refl _|z::l=>by
  unfold put;split
  .exact((oT a l).cons z).trans (.swap a z l)
  .exact .refl _
theorem MC:∀l:List α,(Cj lt l).Perm l| []=>.refl _|a::l=>(oT a _).trans ((MC l).cons a)
def Ov(lt:α->α->Bool)(l:List α):Prop:=l.Pairwise fun a b=>lt a b=true\/lt b a=true
theorem Ov.perm{l1 l2:List α}(h:Ov lt l1)(hp:l1.Perm l2):Ov lt l2:=(hp.pairwise_iff (fun h=>h.symm)).1 h
theorem OF(h:Swo lt){l:List α}(hd:Ov lt l):(Cj lt l).Pairwise fun a b=>lt a b=true:=by
 have h1:(Cj lt l).Pairwise fun a b=>lt b a=false:=OX h l
 have h2:Ov lt (Cj lt l):=hd.perm (MC (lt:=lt) l).symm;exact(h1.and h2).imp fun {a b} ⟨h3,h4⟩=>h4.resolve_right (by rw[h3];simp)
theorem cP(h:Swo lt):∀{l1 l2:List α},(l1.Pairwise fun a b=>lt a b=true)->(l2.Pairwise fun a b=>lt a b=true)->l1.Perm l2->l1=l2
 | [],l2,_,_,hp=>hp.nil_eq|a::l1,[],_,_,hp=>by cases hp.eq_nil
 |a::l1,b::l2,h1,h2,hp=>by
  rw[BI]at h1 h2;by_cases e:a=b
  .subst e;rw[cP h h1.2 h2.2 hp.cons_inv]
  .have h3:a∈l2:=(Af.1 (hp.subset (BZ ..))).resolve_left e;have h4:b∈l1:=(Af.1 (hp.symm.subset (BZ ..))).resolve_left (Ne.symm e);have:=h.jB _ _ (h1.1 b h4)
   grind
theorem AJL(h:Swo lt){l1 l2:List α}(hd:Ov lt l1)(hp:l1.Perm l2):Cj lt l1=Cj lt l2:=
 cP h (OF h hd) (OF h (hd.perm hp)) ((MC l1).trans (hp.trans (MC l2).symm))
end
structure Uni(ps:List AP):Prop where
 id:ps.Pairwise fun p q=>p.Id≠q.Id
 turn:ps.Pairwise fun p q=>p.A4≠q.A4
theorem Uni.perm{a b:List AP}(h:Uni a)(hp:a.Perm b):Uni b:=⟨(hp.pairwise_iff (fun h=>Ne.symm h)).1 h.id,(hp.pairwise_iff (fun h=>Ne.symm h)).1 h.turn⟩
theorem Uni.tail{p:AP}{b:List AP}(h:Uni (p::b)):Uni b:=⟨(BI.1 h.id).2,(BI.1 h.turn).2⟩
theorem qI{r:AW}{now:Int}{p:AP}(hp:FO r p now=true)(hs:p.State=1):Fk r p now=(⟨Jh r p now,p.A4,p.Id,p.BW⟩,true):=by
 grind[Fk]
theorem nN{r:AW}{now:Int}{p:AP}(h:¬(FO r p now=true/\p.State=1)):Fk r p now=(⟨0,0,0,0⟩,false):=by
 unfold Fk;rw[if_neg h]
theorem b0{r:AW}{c now:Int}{p:AP}{e:Ac}(h:ND r c now p=some e):e=⟨Jh r p now,p.A4,p.Id,p.BW⟩/\FO r p now=true/\p.State=1/\p.Bf=c:=by
 grind[ND,qI,nN]
theorem TF{c:Int}{p:AP}{e:Ax}(h:Mn c p=some e):e=⟨p.C4,p.Id⟩/\p.State=2/\p.Bf=c:=by
 grind[Mn]
theorem AJx{ps:List AP}(h:Uni ps)(r:AW)(c now:Int):Ov ltE (ps.filterMap (ND r c now)):=by
 unfold Ov;rw[Fo];refine h.turn.imp ?_;intro p q hne a ha b hb;obtain⟨rfl,_⟩:=b0 ha;obtain⟨rfl,_⟩:=b0 hb
 grind[OY]
theorem oU{ps qs:List AP}(h:Uni ps)(hp:ps.Perm qs)(r:AW)(c now:Int):Gw r ps c now=Gw r qs c now:=AJL fe (AJx h r c now) (hp.filterMap _)
theorem Ym{ps qs:List AP}(hp:ps.Perm qs)(c:Int):HL ps c=HL qs c:=uX Ei fh (hp.filterMap _)
theorem KC(f:AP->Int)(g:Int->AP->Int)(hg:∀n p,g n p=n+f p):∀(l:List AP) (n:Int),l.foldl g n=n+l.foldl g 0| [],n=>by simp|p::l,n=>by rw[BV,BV,KC f g hg l,KC f g hg l (g 0 p),hg,hg];omega
def AEv(c:Int)(p:AP):Int:=if ((p.State==2)&&((p.Bf==c)&&inB p.BW 1 6))=true then p.BW else 0
def AHU(c:Int)(p:AP):Int:=if ((p.Ci==c)&&inB p.BW 1 6)=true then p.BW else 0
def AKD(c:Int)(p:AP):Int:=if (p.Bf==c)=true then 1 else 0
theorem zd(c n:Int)(p:AP):Oz c n p=n+AEv c p:=by grind[Oz,AEv]
theorem AAP(c n:Int)(p:AP):O7 c n p=n+AHU c p:=by grind[O7,AHU]
theorem jU(c n:Int)(p:AP):JG c n p=n+AKD c p:=by grind[JG,AKD]
theorem uQ(p:AP)(ps:List AP)(c:Int):I5 (p::ps) c=AEv c p+I5 ps c:=by
 unfold I5;rw[BV,KC _ _ (zd c),zd];omega
theorem vr(p:AP)(ps:List AP)(c:Int):Kx (p::ps) c=AHU c p+Kx ps c:=by
 unfold Kx;rw[BV,KC _ _ (AAP c),AAP];omega
theorem jV(p:AP)(ps:List AP)(c:Int):D2 (p::ps) c=AKD c p+D2 ps c:=by
 unfold D2;rw[BV,KC _ _ (jU c),jU];omega
theorem ZJ{F:List AP->Int}{f:AP->Int}(hF:∀p l,F (p::l)=f p+F l){a b:List AP}(hp:a.Perm b):F a=F b:=by
 induction hp with
 |nil=>rfl|cons x _ ih=>rw[hF,hF,ih]|swap x y l=>rw[hF,hF,hF,hF];omega|trans _ _ h1 h2=>exact h1.trans h2
theorem uR{a b:List AP}(hp:a.Perm b)(c:Int):I5 a c=I5 b c:=ZJ (F:=fun l=>I5 l c) (fun p l=>uQ p l c) hp
theorem vt{a b:List AP}(hp:a.Perm b)(c:Int):Kx a c=Kx b c:=ZJ (F:=fun l=>Kx l c) (fun p l=>vr p l c) hp
theorem Ti{a b:List AP}(hp:a.Perm b)(c:Int):D2 a c=D2 b c:=ZJ (F:=fun l=>D2 l c) (fun p l=>jV p l c) hp
def wOf(S:List Ax):Aq:=⟨(List.range 9).map fun i=>S.filter (FW i)⟩
theorem ie(S:List Ax):(wOf S).Ah.length=9:=by simp[wOf]
theorem AAT(S:List Ax){i:Nat}(h:i<(wOf S).Ah.length):(wOf S).Ah[i]=S.filter (FW i):=by simp[wOf]
theorem AJR{S T:List Ax}{k:Nat}(hk:k<9)(h:∀i,i<9->i≠k->T.filter (FW i)=S.filter (FW i)):(⟨(wOf S).Ah.set k (T.filter (FW k))⟩:Aq)=wOf T:=by
 unfold wOf;congr 1;apply List.ext_getElem
 .simp
 grind
theorem pd:∀{S:List Ax},(∀p∈S,1<=p.At)->(wOf S).Ah.flatten.Perm S
 | [],_=>by simp[wOf]|p::S,h=>by
  obtain⟨k,hk,e⟩:=pV (h p (BZ ..));have ih:=pd (S:=S) fun q hq=>h q (List.mem_cons_of_mem _ hq)
  have hon:FW k p=true:=IZ.2 e;have h1:=AJR (S:=S) (T:=p::S) hk (by
   intro i hi hne;have:FW i p=false:=by
    grind[FW]
   simp[Dj,this])
  rw[<-h1];have hl:k<(wOf S).Ah.length:=by rw[ie];exact hk
  have h2:(p::S).filter (FW k)=p::(wOf S).Ah[k]:=by rw[AAT];simp[Dj,hon]
  rw[h2];dsimp only;rw[D8,if_pos hl,Gn,DX,List.cons_append];refine(Hf).trans (List.Perm.cons p ?_);rw[<-DX,<-Gn,<-Dt hl,List.take_append_drop];exact ih
structure Zv(S:List Ax):Prop where
 few:S.length<=10
 pins:∀p∈S,Pn p=true
 ids:S.Pairwise fun a b=>a.Id≠b.Id
 srt:S.Pairwise fun a b=>ltP a b=true
theorem ALS{S:List Ax}(h:Zv S):K2 (wOf S):=by
 have hp:=pd fun p hp=>(Rb (h.pins p hp)).1.1
 refine⟨ie S,by rw[hp.length_eq];exact h.few,fun p hq=>h.pins p (hp.subset hq),(hp.pairwise_iff (fun h=>Ne.symm h)).2 h.ids,?_,?_⟩
 .grind[wOf,FW]
 .intro i hi k hk;have h1:(S.filter (FW i)).Pairwise fun a b=>ltP a b=true:=h.srt.filter _
  grind[AAT,List.pairwise_iff_getElem]
structure AAY(r:AW)(ps:List AP)(now:Int)(i:Nat)(c:Aa):Prop where
 row:c.Row=Gw r ps i now
 M8:c.DW=wOf (HL ps i)
 total:c.Ae.Total=r.Ae.getD i 0
 held:c.Ae.Gk=I5 ps i
 AC4:c.Ae.K1=Kx ps i
 led:Iq c.Ae=true
 room:D2 ps i<=r.Room
structure Uh(r:AW)(now turn:Int)(ps:List AP):Prop where
 few:ps.length<=40
 par:∀p∈ps,FO r p now=true/\p.A4<turn
 ids:ps.Pairwise fun p q=>p.Id<q.Id
 turns:ps.Pairwise fun p q=>JF p q=false
structure RH(h:AH):Prop where
 rules:EF h.AR=true
 now:0<=h.Now/\h.Now<=1000000
 turn:1<=h.A4/\h.A4<=1000001
 H3:h.Ap.length=h.AR.Ae.length
 Zi:Uh h.AR h.Now h.A4 h.AK
 cab:∀i (hi:i<h.Ap.length),AAY h.AR h.AK h.Now i h.Ap[i]
 todo:IQ h.BO h.Ap.length=true
 K5:M4 h.BP h.Ap.length=true
 AFO:(h.BP.length:Int)=h.AR.Ch
theorem ADd{p q:AP}(h:JF p q=false):p.A4≠q.A4:=by
 grind[JF]
theorem Uh.uni{r:AW}{now turn:Int}{ps:List AP}(h:Uh r now turn ps):Uni ps:=⟨h.ids.imp fun h=>by omega,h.turns.imp fun h=>ADd h⟩
theorem ABO{ps:List AP}{c:Int}{e:Ax}(h:e∈HL ps c):∃p∈ps,Mn c p=some e:=by
 grind[HL,OW]
theorem vU(r:AW)(ps:List AP)(c now:Int):((Gw r ps c now).length:Int)<=D2 ps c:=by
 unfold Gw;rw[Hn];exact UR _ c (by intro p h;unfold ND;rw[h,CW];rfl) ps
theorem ABN(ps:List AP)(c:Int):((HL ps c).length:Int)<=D2 ps c:=by
 unfold HL;rw[Hn];exact UR _ c (by intro p h;unfold Mn;rw[h,CW];rfl) ps
theorem zy{r:AW}{ps:List AP}{now turn:Int}(hp:Uh r now turn ps){c:Int}(hr:D2 ps c<=10):Zv (HL ps c):=by
 have hl:=ABN ps c;have hids:(ps.filterMap (Mn c)).Pairwise fun a b=>a.Id≠b.Id:=by
  rw[Fo];refine hp.uni.id.imp ?_;intro p q hne a ha b hb;obtain⟨rfl,_⟩:=TF ha;obtain⟨rfl,_⟩:=TF hb;exact hne
 refine⟨by omega,?_,((MC _).pairwise_iff (fun h=>Ne.symm h)).2 hids,OF Ei (hids.imp ?_)⟩
 .intro e he;obtain⟨p,hpm,hs⟩:=ABO he;obtain⟨rfl,hs2,_⟩:=TF hs;have hk:=Jv (hp.par p hpm).1
  grind[Ce,Pn,Du]
 grind[ltP]
section
variable{α:Type}{lt:α->α->Bool}
theorem qQ{p:α->Bool}{l:List α}{k:Nat}(hk:k<l.length)(e:l.eraseP p=l.take k++l.drop (k+1)):l.Perm (l[k]::l.eraseP p):=by
 grind[Dt,List.take_append_drop,List.perm_middle]
theorem set_perm{p:α->Bool}{l:List α}{k:Nat}(hk:k<l.length)(e:l.eraseP p=l.take k++l.drop (k+1))(a:α):(l.set k a).Perm (a::l.eraseP p):=by
 rw[e,D8,if_pos hk];exact Hf
end
theorem Zv.sub{S T:List Ax}(h:Zv T)(hs:S.Sublist T):Zv S:=⟨Bv hs.length_le h.few,fun p hp=>h.pins p (hs.subset hp),h.ids.sublist hs,h.srt.sublist hs⟩
section
variable{p:AP}{ps:List AP}(i:Int)
end
section
variable{r:AW}{now turn:Int}{ps:List AP}
theorem Uh.sub{qs:List AP}(h:Uh r now turn ps)(hs:qs.Sublist ps):Uh r now turn qs:=
 ⟨Bv hs.length_le h.few,fun p hp=>h.par p (hs.subset hp),h.ids.sublist hs,h.turns.sublist hs⟩
theorem Uh.set(h:Uh r now turn ps){k:Nat}(hk:k<ps.length){p:AP}(h1:p.Id=ps[k].Id)(h2:p.A4=ps[k].A4)(h3:p.Since=ps[k].Since)(h4:FO r p now=true):Uh r now turn (ps.set k p):=by
 have hT:=(h.par _ (List.getElem_mem hk)).2;have hg:∀i (hi:i<(ps.set k p).length),(ps.set k p)[i].Id=(ps[i]'(by simpa using hi)).Id/\(ps.set k p)[i].A4=(ps[i]'(by simpa using hi)).A4/\(ps.set k p)[i].Since=(ps[i]'(by simpa using hi)).Since:=by
  grind
 refine⟨by simpa using h.few,?_,?_,?_⟩
 .intro q hq;rcases List.mem_or_eq_of_mem_set hq with hq|rfl
  .exact h.par q hq
  .exact⟨h4,by rw[h2];exact hT⟩
 .rw[Bw];intro i j hi hj hij;rw[(hg i hi).1,(hg j hj).1];exact Bw.1 h.ids i j _ _ hij
 .rw[Bw];intro i j hi hj hij;have:=Bw.1 h.turns i j (by simpa using hi) (by simpa using hj) hij
  grind[JF]
end
theorem AK6{h:AH}{id:Int}(h0:0<=ABQ h id):∃k,∃hk:k<h.AK.length,ABQ h id=(k:Int)/\par h id=h.AK[k]/\(par h id).Id=id/\h.AK.eraseP (fun x=>x.Id==id)=h.AK.take k++h.AK.drop (k+1):=by
 grind[ABQ,wS,par]
end Lv.P
