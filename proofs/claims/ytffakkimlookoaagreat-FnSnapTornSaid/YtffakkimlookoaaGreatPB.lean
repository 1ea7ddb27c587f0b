/-
  Plain laws: wheels are right for both alike, and their pins in order.
-/
import Derived.Test.YtffakkimlookoaaGreatPA
set_option linter.unusedVariables false
set_option linter.unusedSimpArgs false
namespace Lv.P
open Go (IntKind BinOp UnOp)
def RL(p:AN):Bool:=inB p.At 1 1000008&&inB p.Id 1 999
structure JS(w:AK):Prop where
 nine:w.AJ.length=9
 few:w.AJ.flatten.length<=10
 pins:∀p∈w.AJ.flatten,RL p=true
 ids:w.AJ.flatten.Pairwise fun a b=>a.Id≠b.Id
 at_:∀i (h:i<w.AJ.length) k (hk:k<w.AJ[i].length),w.AJ[i][k].At.tmod 9=(i:Int)
 srt:∀i (h:i<w.AJ.length) k (hk:k+1<w.AJ[i].length),ltP w.AJ[i][k] w.AJ[i][k+1]=true
noncomputable def DY(w:AK):Bool:=@decide (JS w) (Classical.propDecidable _)
theorem CV{w:AK}:DY w=true↔JS w:=by unfold DY;exact @decide_eq_true_iff _ (Classical.propDecidable _)
def BU(w:AK):Prop:=w.AJ.length<=1048576/\w.AJ.flatten.length<=1048576
theorem Pe{α:Type}{l:List (List α)}{i:Nat}(h:i<l.length):(l.take i).flatten.length+l[i].length<=l.flatten.length:=by
 have:l.flatten=(l.take i).flatten++(l[i]++(l.drop (i+1)).flatten):=by
  rw [<-List.flatten_cons,<-List.flatten_append,<-Cr h,List.take_append_drop]
 rw [this];simp
theorem Ge{l:List (List AN)}{i:Nat}(h:i<l.length):l[i].length<=l.flatten.length:=by have:=Pe h;omega
theorem XF{w:AK}(hw:BU w):rL w=some w.AJ.flatten:=by
 have hlim:lim=268435456:=rfl;have h1:=hw.1;have h2:=hw.2;unfold rL;refine(Bz (n:=w.AJ.length) (fun i (v:List AN)=>(v,(i:Int))) (fun i v=>v=(w.AJ.take i).flatten) (fun i v=>some w.AJ.flatten) (by omega) ?_ (by simp));intro L i v hv hi ih;unfold m7 m6;dsimp only;rcases Nat.lt_or_ge i w.AJ.length with h|h
 .have:=Pe h;rw [Ac h,Ab,AX h,AA,A1 (by rw [hv];omega),Ag h (by omega)];refine ih _ ?_ h;rw [hv,List.take_add_one,List.getElem?_eq_getElem h,List.flatten_append];simp
 .obtain rfl:i=w.AJ.length:=by omega
  rw [Ae,Ad,AG,hv,List.take_length]
def SC(s:List AN)(i:Nat)(k:Nat):Bool:=D4 s k fun p=>(p.At.tmod 9==(i:Int))&&(if 0<k then D4 s (k-1) (fun d=>ltP d p) else true)
def YX(l:List AN)(i:Nat):Bool:=D4 l i fun p=>RL p&&DU (fun k=>D4 l k fun q=>!(q.Id==p.Id)) 0 i
theorem E3{w:AK}(hw:BU w):ZX w=some (DY w):=by
 have h1:=hw.1;have h2:=hw.2;have hj6:SY w ()=some (DU (fun i=>D4 w.AJ i fun s=>DU (SC s i) 0 s.length) 0 w.AJ.length):=by
  unfold SY;rw [EC (n:=w.AJ.length) (E:=some true) (fun i=>D4 w.AJ i fun s=>DU (SC s i) 0 s.length) (by omega) ?_ ?_,Bb,Bool.and_true]
  .intro L i h;have hs:=Ge h;rw [Ay h];unfold Za;rw [Ac h,Ab];refine EC (n:=w.AJ[i].length) (E:=L ((i+1:Nat):Int)) (SC w.AJ[i] i) (by omega) ?_ ?_
   .intro L' k hk;have hw':=Ag hk (show w.AJ[i].length<2 ^ 63 by omega);unfold SC;rw [Ay hk];unfold Zb SZ;rw [AX h,AA,Ac hk,Ab,Mk];simp only [AA,AX hk,AG,hw',Ab,Ad];by_cases h0:0<k
    .rw [decide_eq_true h0,Ab,if_pos h0,D9 k h0 (by omega),AX (show k-1<w.AJ[i].length by omega),AA,SB,AA,Ay (show k-1<w.AJ[i].length by omega),bne];cases w.AJ[i][k].At.tmod 9==(i:Int) <;> cases ltP w.AJ[i][k-1] w.AJ[i][k] <;> rfl
    .rw [decide_eq_false h0,Ad,if_neg h0,bne];cases w.AJ[i][k].At.tmod 9==(i:Int) <;> rfl
   .intro L';unfold Zb fR;rw [AX h,AA,Ae,Ad,AG,Ag h (by omega)]
  .intro L;unfold Za fS;rw [Ae,Ad,AG]
 have hj1:∀b,SW w w.AJ.flatten b=some (!b&&(DU (YX w.AJ.flatten) 0 w.AJ.flatten.length&&DU (fun i=>D4 w.AJ i fun s=>DU (SC s i) 0 s.length) 0 w.AJ.length)):=by
  intro b;unfold SW;rw [EC (n:=w.AJ.flatten.length) (E:=SY w ()) (YX w.AJ.flatten) (by omega) ?_ ?_,hj6,Bb,EB]
  .intro L i h;unfold YX;rw [Ay h];have hj3:∀b,SX w.AJ.flatten L i b=br (!b&&DU (fun k=>D4 w.AJ.flatten k fun q=>!(q.Id==w.AJ.flatten[i].Id)) 0 i) (L ((i+1:Nat):Int)) (some false):=by
    intro b;unfold SX;rw [EC (n:=i) (E:=L ((i+1:Nat):Int)) (fun k=>D4 w.AJ.flatten k fun q=>!(q.Id==w.AJ.flatten[i].Id)) (by omega) ?_ ?_]
    .cases b <;> rfl
    .intro L' k hk;rw [Ay (show k<w.AJ.flatten.length by omega)];unfold ZZ;rw [Ac hk,Ab];simp only [AX h,AX (show k<w.AJ.flatten.length by omega),AA,Ag hk (show i<2 ^ 63 by omega)];cases w.AJ.flatten[k].Id==w.AJ.flatten[i].Id <;> rfl
    .intro L';unfold ZZ m8;rw [Ae,Ad,AG,Ag h (by omega)]
   unfold ZY RL;rw [Ac h,Ab];simp only [AX h,AA,FB,Ai,AG,hj3];generalize DU (fun k=>D4 w.AJ.flatten k fun q=>!(q.Id==w.AJ.flatten[i].Id)) 0 i=X;cases inB w.AJ.flatten[i].At 1 1000008 <;> cases inB w.AJ.flatten[i].Id 1 999 <;> rfl
  .intro L;unfold ZY;rw [Ae,Ad,AG]
 unfold ZX;rw [XF hw,AA,AG,AG,hj1,hj1,Bool.not_true,Bool.false_and,bne,Ai,Bb];congr 1;rw [Bool.eq_iff_iff,CV];simp only [Bool.and_eq_true,beq_iff_eq,Bool.not_eq_true',decide_eq_false_iff_not,GC];constructor
 .rintro⟨a1,a2,a3,a4⟩;refine⟨by omega,by omega,?_,?_,?_,?_⟩
  .intro p hp;obtain⟨k,hk,rfl⟩:=List.getElem_of_mem hp;have:=a3 k hk;unfold YX at this;rw [Ay hk,Bool.and_eq_true] at this;exact this.1
  .rw [List.pairwise_iff_getElem];intro i j hi hj hij;have:=a3 j hj;unfold YX at this;rw [Ay hj,Bool.and_eq_true,GC] at this;have:=this.2 i hij;rw [Ay hi] at this;simpa using this
  .intro i h k hk;have:=a4 i h;rw [Ay h,GC] at this;have:=this k hk;unfold SC at this;rw [Ay hk,Bool.and_eq_true,beq_iff_eq] at this;exact this.1
  .intro i h k hk;have:=a4 i h;rw [Ay h,GC] at this;have:=this (k+1) hk;unfold SC at this;rw [Ay hk,Bool.and_eq_true,if_pos (by omega),Nat.add_sub_cancel,Ay (by omega)] at this;exact this.2
 .rintro⟨a1,a2,a3,a4,a5,a6⟩;refine⟨by omega,by omega,?_,?_⟩
  .intro k hk;unfold YX;rw [Ay hk,Bool.and_eq_true,GC];refine⟨a3 _ (List.getElem_mem _),fun j hj=>?_⟩;rw [Ay (by omega)];rw [List.pairwise_iff_getElem] at a4;have:=a4 j k (by omega) hk hj;simpa using this
  .intro i h;rw [Ay h,GC];intro k hk;unfold SC;rw [Ay hk,Bool.and_eq_true,beq_iff_eq];refine⟨a5 i h k hk,?_⟩;split
   .rename_i h0;obtain⟨k,rfl⟩:∃j,k=j+1:=⟨k-1,by omega⟩;rw [Nat.add_sub_cancel,Ay (by omega)];exact a6 i h k hk
   .rfl
def Hk(m:List (Int×Int))(p:AN):List (Int×Int):=Dy m p.Id (w64 (Fz m p.Id+1))
theorem tH:∀{m:List (Int×Int)} {n v:Int},n∈m.map (·.1)->(Dy m n v).map (·.1)=m.map (·.1)
 | [],n,v,h=>by simp at h
 |(k,w)::m,n,v,h=>by
  unfold Dy;by_cases e:n=k
  .rw [if_pos e];rfl
  .rw [if_neg e];rw [List.map_cons,List.mem_cons] at h;rw [List.map_cons,tH (h.resolve_left e)];rfl
theorem n9:∀{m:List (Int×Int)} {n v:Int},n∉m.map (·.1)->(Dy m n v).map (·.1)=m.map (·.1)++[n]
 | [],n,v,h=>rfl
 |(k,w)::m,n,v,h=>by
  unfold Dy;rw [List.map_cons,List.mem_cons,not_or] at h;rw [if_neg h.1,List.map_cons,n9 h.2];rfl
theorem pt:∀(l:List AN) (m:List (Int×Int)),(l.foldl Hk m).length<=m.length+l.length/\((l.foldl Hk m).length=m.length+l.length↔(∀p∈l,p.Id∉m.map (·.1))/\l.Pairwise fun a b=>a.Id≠b.Id)
 | [],m=>by simp
 |p::l,m=>by
  rw [List.foldl_cons];have ih:=pt l (Hk m p);by_cases h:p.Id∈m.map (·.1)
  .have e:(Hk m p).map (·.1)=m.map (·.1):=tH h;have el:(Hk m p).length=m.length:=by simpa using congrArg List.length e
   rw [el] at ih;refine⟨by rw [List.length_cons];omega,?_⟩;constructor
   .intro g;rw [List.length_cons] at g;omega
   .intro g;exact absurd h (g.1 p List.mem_cons_self)
  .have e:(Hk m p).map (·.1)=m.map (·.1)++[p.Id]:=n9 h;have el:(Hk m p).length=m.length+1:=by simpa using congrArg List.length e
   rw [el,e] at ih;rw [List.length_cons,show m.length+(l.length+1)=m.length+1+l.length by omega,ih.2,List.pairwise_cons];refine⟨ih.1,?_⟩;constructor
   .rintro⟨g1,g2⟩;refine⟨?_,?_,g2⟩
    .intro q hq;rcases List.mem_cons.1 hq with rfl|hq
     .exact h
     .intro hm;exact g1 q hq (List.mem_append_left _ hm)
    .intro q hq hm;exact g1 q hq (List.mem_append_right _ (by rw [hm];exact List.mem_singleton.2 rfl))
   .rintro⟨g1,g2,g3⟩;refine⟨?_,g3⟩;intro q hq hm;rcases List.mem_append.1 hm with hm|hm
    .exact g1 q (List.mem_cons_of_mem _ hq) hm
    .exact g2 q hq (List.mem_singleton.1 hm).symm
theorem VI(p:AN):dF p=some (RL p):=by
 unfold dF TJ RL;simp only [E5,AA,AG,Bb]
def OX(s:List AN)(i:Nat)(k:Nat):Bool:=D4 s k fun p=>RL p&&((p.At.tmod 9==(i:Int))&&(if 0<k then D4 s (k-1) (fun d=>!(ltP p d)) else true))
theorem YZ(p:Nat->Bool){i n:Nat}(h:i<n):DU p i (n-i)=(p i&&DU p (i+1) (n-(i+1))):=by rw [show n-i=(n-(i+1))+1 by omega];rfl
theorem kx{s:List AN}(hs:s.length<=1048576){L:List (Int×Int)×Int×Int->Option Bool}{i:Nat}(hi:i<9){m:List (Int×Int)}{n:Nat}(hn:n<=2 ^ 50) :
 AT (TM L i s) big (m,(n:Int),0)=br (DU (OX s i) 0 s.length) (L (s.foldl Hk m,((n+s.length:Nat):Int),((i+1:Nat):Int))) (some false):=by
 refine(Bz (n:=s.length) (fun k (v:List (Int×Int)×Nat)=>(v.1,(v.2:Int),(k:Int))) (fun k v=>v.2=n+k) (fun k v=>br (DU (OX s i) k (s.length-k)) (L ((s.drop k).foldl Hk v.1,((n+s.length:Nat):Int),((i+1:Nat):Int))) (some false)) (by omega) ?_ (v:=(m,n)) rfl);rintro L' k ⟨m,n'⟩ hv hk ih;dsimp only at hv ih ⊢;unfold TM Kl;dsimp only;rcases Nat.lt_or_ge k s.length with h|h
 .have hih:=ih (Hk m s[k],n'+1) (by dsimp only;omega) h;dsimp only at hih;have ew:w64 ((n':Int)+1)=((n'+1:Nat):Int):=by rw [AP (by omega) (by omega)];rfl
  rw [Ac h,Ab,AX h,AA,VI,AA,Ai,YZ _ h,Cr h,List.foldl_cons,Mk];simp only [AG,Ab,Ad,Ag h (show s.length<2 ^ 63 by omega),ew];have ed:Dy m s[k].Id (w64 (Fz m s[k].Id+1))=Hk m s[k]:=rfl;rw [ed,hih];unfold OX;rw [Ay h];generalize DU _ (k+1) (s.length-(k+1))=X;generalize L _=Z;by_cases h0:0<k
  .obtain⟨c,e1,e2,e3⟩:=EV s[k-1] s[k];rw [decide_eq_true h0,Ab,if_pos h0,D9 k h0 (by omega),AX (show k-1<s.length by omega),AA,e1,AA,e3,Ay (show k-1<s.length by omega),bne];cases RL s[k] <;> cases s[k].At.tmod 9==(i:Int) <;> cases ltP s[k] s[k-1] <;> rfl
  .rw [decide_eq_false h0,Ad,if_neg h0,bne];cases RL s[k] <;> cases s[k].At.tmod 9==(i:Int) <;> rfl
 .obtain rfl:k=s.length:=by omega
  unfold dG;dsimp only;rw [Ae,Ad,AG,Ag (i:=i) (n:=9) hi (by omega),Nat.sub_self,List.drop_length,hv];rfl
theorem GM{w:AK}(hw:BU w):Oz w=some (DY w):=by
 have h1:=hw.1;have h2:=hw.2;unfold Oz;rw [bne,Ai];by_cases h9:w.AJ.length=9
 .have e9:((w.AJ.length:Int)==9)=true:=by rw [beq_iff_eq];omega
  rw [e9,Ab];have:=(Bz (F:=TL w) (n:=w.AJ.length) (fun k (v:List (Int×Int)×Nat)=>(v.1,(v.2:Int),(k:Int))) (fun k v=>v.2=(w.AJ.take k).flatten.length) (fun k v=>br (DU (fun i=>D4 w.AJ i fun s=>DU (OX s i) 0 s.length) k (w.AJ.length-k)) (O0 ((w.AJ.drop k).flatten.foldl Hk v.1,((v.2+(w.AJ.drop k).flatten.length:Nat):Int))) (some false)) (by omega) ?_ (v:=([],0)) (by simp))
  .refine Eq.trans this ?_;unfold O0 TK;simp only [List.drop_zero,Nat.zero_add,AG,Bb,Nat.sub_zero];congr 1;have hc:=pt w.AJ.flatten [];rw [List.length_nil,Nat.zero_add] at hc;rw [Bool.eq_iff_iff,CV];simp only [Bool.and_eq_true,beq_iff_eq,decide_eq_true_iff,GC];have hm:((w.AJ.flatten.foldl Hk []).length:Int)=(w.AJ.flatten.length:Int)↔w.AJ.flatten.Pairwise fun a b=>a.Id≠b.Id:=by
    rw [Int.ofNat_inj,hc.2];simp
   rw [hm];constructor
   .rintro⟨a1,a2,a3⟩;have hk:∀i (h:i<w.AJ.length) k (hk:k<w.AJ[i].length),RL w.AJ[i][k]=true/\w.AJ[i][k].At.tmod 9=(i:Int)/\(if 0<k then D4 w.AJ[i] (k-1) (fun d=>!(ltP w.AJ[i][k] d)) else true)=true:=by
     intro i h k hk;have:=a1 i h;rw [Ay h,GC] at this;have:=this k hk;unfold OX at this;rw [Ay hk,Bool.and_eq_true,Bool.and_eq_true,beq_iff_eq] at this;exact this
    refine⟨h9,by omega,?_,a3,fun i h k hk'=>(hk i h k hk').2.1,?_⟩
    .intro p hp;obtain⟨s,hs,hp⟩:=List.mem_flatten.1 hp;obtain⟨i,hi,rfl⟩:=List.getElem_of_mem hs;obtain⟨k,hk',rfl⟩:=List.getElem_of_mem hp;exact(hk i hi k hk').1
    .intro i h k hk';have:=(hk i h (k+1) hk').2.2;rw [if_pos (by omega),Nat.add_sub_cancel,Ay (by omega),Bool.not_eq_true',VS] at this;have hd:=(List.pairwise_flatten.1 a3).1 _ (List.getElem_mem h);rw [List.pairwise_iff_getElem] at hd;have:=hd k (k+1) (by omega) hk' (by omega);rw [Jy];omega
   .rintro⟨a1,a2,a3,a4,a5,a6⟩;refine⟨?_,by omega,a4⟩;intro i h;rw [Ay h,GC];intro k hk;unfold OX;rw [Ay hk,Bool.and_eq_true,Bool.and_eq_true,beq_iff_eq];refine⟨a3 _ (List.mem_flatten.2 ⟨_,List.getElem_mem h,List.getElem_mem hk⟩),a5 i h k hk,?_⟩;split
    .obtain⟨k,rfl⟩:∃j,k=j+1:=⟨k-1,by omega⟩;rw [Nat.add_sub_cancel,Ay (by omega),Bool.not_eq_true'];exact Cs.il _ _ (a6 i h k hk)
    .rfl
  .rintro L k ⟨m,n⟩ hv hk ih;dsimp only at hv ih ⊢;unfold TL;dsimp only;rcases Nat.lt_or_ge k w.AJ.length with h|h
   .have hf:=Pe h;rw [Ac h,Ab,AX h,AA,kx (by omega) (by omega) (by omega),YZ _ h,Ay h];have ef:(w.AJ.take (k+1)).flatten=(w.AJ.take k).flatten++w.AJ[k]:=by rw [List.take_add_one,List.getElem?_eq_getElem h,List.flatten_append];simp
    have:=ih (w.AJ[k].foldl Hk m,n+w.AJ[k].length) (by dsimp only;rw [ef,List.length_append,hv]) h;dsimp only at this;rw [this,Cr h,List.flatten_cons,List.foldl_append,List.length_append,Nat.add_assoc];generalize DU _ (k+1) _=X;generalize O0 _=Z;cases DU (OX w.AJ[k] k) 0 w.AJ[k].length <;> rfl
   .obtain rfl:k=w.AJ.length:=by omega
    rw [Ae,Ad,AG,Nat.sub_self,List.drop_length];rfl
 .have e9:((w.AJ.length:Int)==9)=false:=by rw [beq_eq_false_iff_ne];omega
  rw [e9,Ad];congr 1;have:¬(DY w=true):=by rw [CV];exact fun h=>h9 h.nine
  rw [Bool.not_eq_true] at this;exact this.symm
noncomputable def F6(w:AK):List AN:=if DY w=true then BS ltP w.AJ.flatten else []
theorem R9{w:AK}(hw:BU w):oe w=some (F6 w):=by
 have hlim:lim=268435456:=rfl;have h2:=hw.2;unfold oe F6;rw [E3 hw,AA,Ai,XF hw,AA,Bu];split
 .rw [K9 (l:=w.AJ.flatten) (fun v p=>put ltP p v) (fun i v=>v.length<=i) some (by omega) ?_ ?_ ?_ (by simp),<-Q4 Cs ng]
  .intro L i h v hv;unfold Zk;dsimp only;rw [Ac h,Ab,AX h,AA,AA,OW (by omega),AA]
  .intro i h v hv;rw [C6];omega
  .intro L v hv;unfold Zk nC;dsimp only;rw [Ae,Ad,AG]
 .rfl
theorem fq{w:AK}(hw:BU w):lk w=some (F6 w):=by
 have hlim:lim=268435456:=rfl;have h1:=hw.1;have h2:=hw.2;unfold lk F6;rw [GM hw,AA,Ai,Bu];split
 .rename_i hk;have hk:=CV.1 hk;refine(Bz (n:=w.AJ.length) (fun i (v:List AN)=>(v,(i:Int))) (fun i v=>v=(w.AJ.take i).flatten) (fun i v=>some (BS ltP w.AJ.flatten)) (by omega) ?_ (by simp));intro L i v hv hi ih;unfold cY cX;dsimp only;rcases Nat.lt_or_ge i w.AJ.length with h|h
  .have:=Pe h;rw [Ac h,Ab,AX h,AA,A1 (by rw [hv];omega),Ag h (by omega)];refine ih _ ?_ h;rw [hv,List.take_add_one,List.getElem?_eq_getElem h,List.flatten_append];simp
  .obtain rfl:i=w.AJ.length:=by omega
   have:=hk.few;rw [Ae,Ad,AG,hv,List.take_length,xz (by omega),AA]
 .rfl
end Lv.P
namespace Lv.P
open Go (IntKind BinOp UnOp)
def CW(c:Am):Prop:=c.Row.length<=1048576/\BU c.Gk
structure BO(h:AF):Prop where
 E2:h.AS.AM.length<=1048576
 Du:h.AE.length<=1048576
 MA:h.AR.length<=1048576
 QZ:∀c∈h.AR,CW c
 todo:h.A7.length<=1048576
 jY:h.BC.length<=1048576
noncomputable def JV(c:Am):Bool:=Jx c.AM&&(Ws c.Row&&DY c.Gk)
theorem QF{c:Am}(hc:CW c):oW c=some (JV c):=by
 have:=hc.1;unfold oW Sa JV;simp only [NO,KC c.Row (by omega),E3 hc.2,AA,AG,Bb]
theorem Zv{c:Am}(hc:CW c):l8 c=some (JV c):=by
 have:=hc.1;unfold l8 O1 JV;simp only [XT,Zz c.Row (by omega),GM hc.2,AA,AG,Bb]
theorem OS{w:AK}(hw:BU w):(F6 w).length<=1048576:=by
 unfold F6;split
 .rw [EX];exact hw.2
 .simp
noncomputable def Fa(r:AO)(c:Am)(l:List AI)(k now:Int):Bool:=
 JV c&&(DE eqE c.Row (HR r l k now)&&(DE eqP (F6 c.Gk) (KR l k)&&((c.AM.Eb==Pk l k)&&(c.AM.M3==Yp l k))))
theorem iG{r:AO}(hr:r.AM.length<2 ^ 62){c:Am}(hc:CW c){l:List AI}(hl:l.length<=1048576)(k now:Int):uV r c l k now=some (Fa r c l k now):=by
 have h1:=hc.1;have h2:=OS hc.2;unfold uV MU Fa;simp only [QF hc,KB hr hl,QI (show c.Row.length<2 ^ 62 by omega),R9 hc.2,ML hl,NP (show (F6 c.Gk).length<2 ^ 62 by omega),H7 (show l.length<2 ^ 58 by omega),H8 (show l.length<2 ^ 58 by omega),AA,AG,Bb]
theorem fe{r:AO}(hr:r.AM.length<2 ^ 62){c:Am}(hc:CW c){l:List AI}(hl:l.length<=1048576){k:Int}(hk:EG l k<=19)(now:Int):mJ r c l k now=some (Fa r c l k now):=by
 have h1:=hc.1;have h2:=OS hc.2;unfold mJ Im Fa;simp only [Zv hc,Po hr hl hk,fh (show c.Row.length<2 ^ 62 by omega),fq hc.2,Rq hl hk,fk (show (F6 c.Gk).length<2 ^ 62 by omega),Rp (show l.length<2 ^ 58 by omega),Rr (show l.length<2 ^ 58 by omega),AA,AG,Bb]
def JW(q p:AI):Bool:=(q.Ah==p.Ah)||((decide (q.Ah<p.Ah)&&decide (p.Since<q.Since))||(decide (p.Ah<q.Ah)&&decide (q.Since<p.Since)))
def YW(h:AF)(i:Nat):Bool:=
 D4 h.AE i fun p=>EP h.AS p h.Now&&(!(decide (p.Ah>=h.Ah))&&((if 0<i then D4 h.AE (i-1) (fun q=>!(decide (q.Id>=p.Id))) else true)&&DU (fun k=>D4 h.AE k fun q=>!(JW q p)) 0 i))
def HP(h:AF):Bool:=DU (YW h) 0 h.AE.length
theorem SI{h:AF}(hh:BO h):uX h=some (HP h):=by
 have h1:=hh.E2;have h2:=hh.Du;unfold uX HP;rw [EC (n:=h.AE.length) (E:=some true) (YW h) (by omega) ?_ ?_,Bb,Bool.and_true]
 .intro L i hi;unfold YW;rw [Ay hi];have hj2:∀b,Mi h L i h.AE[i] b=br (!b&&DU (fun k=>D4 h.AE k fun q=>!(JW q h.AE[i])) 0 i) (L ((i+1:Nat):Int)) (some false):=by
   intro b;unfold Mi;rw [EC (n:=i) (E:=L ((i+1:Nat):Int)) (fun k=>D4 h.AE k fun q=>!(JW q h.AE[i])) (by omega) ?_ ?_]
   .cases b <;> rfl
   .intro L' k hk;have hkl:k<h.AE.length:=by omega
    have hj4:∀b,Hu L' k b=br (!b) (L' ((k+1:Nat):Int)) (some false):=by intro b;unfold Hu;rw [Ag hk (by omega)];cases b <;> rfl
    rw [Ay hkl];unfold ZR JW;rw [Ac hk,Ab,AX hkl,AA];simp only [AG,hj4,gt_iff_lt];cases h.AE[k].Ah==h.AE[i].Ah <;> cases decide (h.AE[k].Ah<h.AE[i].Ah) <;> cases decide (h.AE[i].Since<h.AE[k].Since) <;> cases decide (h.AE[i].Ah<h.AE[k].Ah) <;> cases decide (h.AE[k].Since<h.AE[i].Since) <;> rfl
   .intro L';unfold ZR mW;rw [Ae,Ad,AG,Ag hi (by omega)]
  unfold ZQ;rw [Ac hi,Ab,AX hi,AA,KA (by omega),AA,Ai,Mk];simp only [AG,hj2];generalize DU (fun k=>D4 h.AE k fun q=>!(JW q h.AE[i])) 0 i=X;by_cases h0:0<i
  .rw [decide_eq_true h0,Ab,if_pos h0,D9 i h0 (by omega),AX (show i-1<h.AE.length by omega),AA,Ay (show i-1<h.AE.length by omega)];cases EP h.AS h.AE[i] h.Now <;> cases decide (h.AE[i].Ah>=h.Ah) <;> cases decide (h.AE[i-1].Id>=h.AE[i].Id) <;> rfl
  .rw [decide_eq_false h0,Ad,if_neg h0];cases EP h.AS h.AE[i] h.Now <;> cases decide (h.AE[i].Ah>=h.Ah) <;> rfl
 .intro L;unfold ZQ mX;rw [Ae,Ad,AG]
theorem XD{l:List Int}(hl:l.length<2 ^ 62)(x:Int):rF l x=some (l.any (fun y=>y==x)):=by
 unfold rF;refine(Bz (n:=l.length) (fun i (_:Unit)=>(i:Int)) (fun _ _=>True) (fun i _=>some ((l.drop i).any (fun y=>y==x))) (by omega) ?_ (v:=()) trivial);intro L i _ _ hi ih;unfold mo mn;rcases Nat.lt_or_ge i l.length with h|h
 .rw [Ac h,Ab,AX h,AA,Ag h (by omega),Cr h,List.any_cons];cases l[i]==x with
  |true=>rfl
  |false=>rw [Ad,ih () trivial h];rfl
 .obtain rfl:i=l.length:=by omega
  rw [Ae,Ad,AG,List.drop_length];rfl
theorem XS{l:List Int}(hl:l.length<2 ^ 62)(x:Int):mK l x=some (l.any (fun y=>y==x)):=by
 unfold mK qZ;rw [im (l:=l) (p:=fun y=>x==y) (by omega) ?_ ?_,AA]
 .congr 1;rw [Bool.eq_iff_iff,decide_eq_true_iff,List.any_eq_true];have:=cB (p:=fun y=>x==y) (l:=l) (s:=0);constructor
  .intro h;have h2:¬∀y∈l,(x==y)=false:=by rw [<-this];omega
   simp only [beq_eq_false_iff_ne] at h2;refine Classical.byContradiction fun g=>h2 fun y hy e=>g ⟨y,hy,by simp [e]⟩
  .rintro⟨y,hy,e⟩;have h2:¬atF (fun y=>x==y) l 0<0:=by
    rw [this];intro g;have:=g y hy;rw [beq_iff_eq] at e;rw [e] at this;simp at this
   omega
 .intro L i h;unfold Ti;rw [Ac h,Ab,AX h,AA]
 .intro L;unfold Ti dp;rw [Ae,Ad,AG]
def MN(t:List Int)(n:Int)(i:Nat):Bool:=D4 t i fun k=>inB k 0 (w64 (n-1))&&!((t.take i).any fun y=>y==k)
def KS(t:List Int)(n:Int):Bool:=DU (MN t n) 0 t.length
def Lb(t:List Int)(n:Int):Bool:=t.all fun x=>inB x (-1) (w64 (n-1))
theorem bR{h:AF}(hh:BO h):uY h=some (KS h.A7 h.AR.length&&(Lb h.BC h.AR.length&&((h.BC.length:Int)==h.AS.Bd))):=by
 have h1:=hh.todo;have h2:=hh.jY;have e3:SS h ()=some (Lb h.BC h.AR.length&&((h.BC.length:Int)==h.AS.Bd)):=by
  unfold SS Lb;rw [lC (l:=h.BC) (fun x=>inB x (-1) (w64 ((h.AR.length:Int)-1))) (E:=some ((h.BC.length:Int)==h.AS.Bd)) (by omega) ?_ ?_,Bb]
  .intro L i hi;unfold ZU;rw [Ac hi,Ab,AX hi,AA,FB,AA,Ai]
  .intro L;unfold ZU m3;rw [Ae,Ad,AG]
 unfold uY KS;rw [EC (n:=h.A7.length) (E:=SS h ()) (MN h.A7 h.AR.length) (by omega) ?_ ?_,e3,Bb]
 .intro L i hi;unfold MN;rw [Ay hi];unfold ZT ZS;rw [Ac hi,Ab,AX hi,AA,FB,AA,Ai,A1 (by omega),AA,Int.toNat_natCast,XD (by rw [List.length_take];omega),AA,AG,AG,Ag hi (by omega),Ab];cases inB h.A7[i] 0 (w64 ((h.AR.length:Int)-1)) <;> cases (h.A7.take i).any (fun y=>y==h.A7[i]) <;> rfl
 .intro L;unfold ZT;rw [Ae,Ad,AG]
noncomputable def S6(h:AF)(i:Nat):Bool:=
 D4 h.AR i fun c=>D4 h.AS.AM i (fun s=>c.AM.Total==s)&&(Fa h.AS c h.AE i h.Now&&!(decide (EG h.AE i>h.AS.Room)))
noncomputable def Ho(h:AF):Bool:=DU (S6 h) 0 h.AR.length
noncomputable def Bl(h:AF):Bool:=
 Bt h.AS&&(inB h.Now 0 1000000&&(inB h.Ah 1 1000001&&(!(decide ((h.AE.length:Int)>40))&&(((h.AR.length:Int)==(h.AS.AM.length:Int))&&(HP h&&((KS h.A7 h.AR.length&&(Lb h.BC h.AR.length&&((h.BC.length:Int)==h.AS.Bd)))&&Ho h))))))
theorem Cv{h:AF}(hh:BO h):Qd h=some (Bl h):=by
 have h1:=hh.E2;have h2:=hh.Du;have h3:=hh.MA;have ht:Hr h true=some false:=rfl;unfold Qd Bl;by_cases hcl:h.AR.length=h.AS.AM.length
 .have hj2:∀b,SP h b=some (!b&&Ho h):=by
   intro b;unfold SP Ho;rw [EC (n:=h.AR.length) (E:=some true) (S6 h) (by omega) ?_ ?_,Bb,Bool.and_true,EB]
   .intro L i hi;have hj4:∀b,Ol L i b=br (!b) (L ((i+1:Nat):Int)) (some false):=by intro b;unfold Ol;rw [Ag hi (by omega)];cases b <;> rfl
    unfold S6;rw [Ay hi,Ay (show i<h.AS.AM.length by omega)];unfold ZJ;rw [Ac hi,Ab,AX hi,AA,AX (show i<h.AS.AM.length by omega),AA,AA,iG (by omega) (hh.QZ _ (List.getElem_mem hi)) h2,AA,Ai,QG (by omega),AA];simp only [AG,hj4,bne];cases h.AR[i].AM.Total==h.AS.AM[i] <;> cases Fa h.AS h.AR[i] h.AE i h.Now <;> cases decide (EG h.AE i>h.AS.Room) <;> rfl
   .intro L;unfold ZJ lf;rw [Ae,Ad,AG]
  have hj1:∀b,Hr h b=some (!b&&(HP h&&((KS h.A7 h.AR.length&&(Lb h.BC h.AR.length&&((h.BC.length:Int)==h.AS.Bd)))&&Ho h))):=by
   intro b;unfold Hr;simp only [SI hh,bR hh,AA,Ai,AG,hj2,Bool.not_true,Bool.false_and,Bool.not_not,Bb,EB]
  simp only [DP (show h.AS.AM.length<2 ^ 62 by omega),FB,AA,Ai,AG,hj1,Bool.not_true,Bool.false_and,Bb,EB,bne,Bool.not_not]
 .have e:((h.AR.length:Int)==(h.AS.AM.length:Int))=false:=by rw [beq_eq_false_iff_ne];omega
  simp only [DP (show h.AS.AM.length<2 ^ 62 by omega),FB,AA,Ai,AG,bne,e,Bool.not_false,ht,lH,Bool.false_and,Bool.and_false]
theorem Ds{h:AF}(hh:BO h):Tj h=some (Bl h):=by
 have h1:=hh.E2;have h2:=hh.Du;have h3:=hh.MA;have h4:=hh.todo;have h5:=hh.jY;have ht:Fm h true=some false:=rfl;unfold Tj Bl;by_cases hr:Bt h.AS=false
 .rw [DL (by omega),AA,hr,Ai,Ad,AG,ht];rfl
 rw [Bool.not_eq_false] at hr;have hrm:=(BT hr).2.2.1;by_cases hcl:h.AR.length≠h.AS.AM.length
 .have e:((h.AR.length:Int)==(h.AS.AM.length:Int))=false:=by rw [beq_eq_false_iff_ne];omega
  simp only [DL (show h.AS.AM.length<2 ^ 62 by omega),E5,AA,Ai,AG,bne,e,Bool.not_false,ht,Ab,lH,Bool.false_and,Bool.and_false]
 have hcl:=Classical.not_not.1 hcl;have e13:Mh h ()=some (Lb h.BC h.AR.length):=by
  unfold Mh Lb;rw [lC (l:=h.BC) (fun x=>inB x (-1) (w64 ((h.AR.length:Int)-1))) (E:=some true) (by omega) ?_ ?_,Bb,Bool.and_true]
  .intro L i hi;unfold Qo;rw [Ac hi,Ab,AX hi,AA,E5,AA,Ai,hcl]
  .intro L;unfold Qo X2;rw [Ae,Ad,AG]
 have e10:Mg h ()=some (KS h.A7 h.AR.length&&Lb h.BC h.AR.length):=by
  unfold Mg KS;rw [EC (n:=h.A7.length) (E:=Mh h ()) (MN h.A7 h.AR.length) (by omega) ?_ ?_,e13,Bb]
  .intro L i hi;unfold MN;rw [Ay hi];unfold Qn Qm;rw [Ac hi,Ab,AX hi,AA,fw,AA,Ai,A1 (by omega),Int.toNat_natCast,XS (by rw [List.length_take];omega),AA,AG,AG,Ag hi (by omega),Ab,hcl];cases inB h.A7[i] 0 (w64 ((h.AS.AM.length:Int)-1)) <;> cases (h.A7.take i).any (fun y=>y==h.A7[i]) <;> rfl
  .intro L;unfold Qn;rw [Ae,Ad,AG]
 have e7:PE h ()=some (Ho h&&(KS h.A7 h.AR.length&&Lb h.BC h.AR.length)):=by
  unfold PE Ho;rw [EC (n:=h.AR.length) (E:=Mg h ()) (S6 h) (by omega) ?_ ?_,e10,Bb]
  .intro L i hi;have hj9:∀b,Ks L i b=br (!b) (L ((i+1:Nat):Int)) (some false):=by intro b;unfold Ks;rw [Ag hi (by omega)];cases b <;> rfl
   unfold S6;rw [Ay hi,Ay (show i<h.AS.AM.length by omega)];unfold Tm;rw [Ac hi,Ab,AX hi,AA,AX (show i<h.AS.AM.length by omega),AA,Zw (by omega),AA];by_cases hc:EG h.AE i>h.AS.Room
   .rw [decide_eq_true hc];simp only [AG,hj9,bne,Ab];cases h.AR[i].AM.Total==h.AS.AM[i] <;> cases Fa h.AS h.AR[i] h.AE i h.Now <;> rfl
   .rw [decide_eq_false hc,fe (by omega) (hh.QZ _ (List.getElem_mem hi)) h2 (by omega),AA];simp only [AG,hj9,bne,Ad];cases h.AR[i].AM.Total==h.AS.AM[i] <;> cases Fa h.AS h.AR[i] h.AE i h.Now <;> rfl
  .intro L;unfold Tm;rw [Ae,Ad,AG]
 have hj1:∀b,Fm h b=some (!b&&(!(decide ((h.AE.length:Int)>40))&&(HP h&&(Ho h&&(KS h.A7 h.AR.length&&Lb h.BC h.AR.length))))):=by
  intro b;unfold Fm HP;rw [EC (n:=h.AE.length) (E:=PE h ()) (YW h) (by omega) ?_ ?_,e7,Bb,EB,EB]
  .intro L i hi;unfold YW;rw [Ay hi];have hj3:∀b,Io h L i h.AE[i] b=br (!b&&DU (fun k=>D4 h.AE k fun q=>!(JW q h.AE[i])) 0 i) (L ((i+1:Nat):Int)) (some false):=by
    intro b;unfold Io;rw [A1 (by omega),EC (n:=i) (E:=L ((i+1:Nat):Int)) (fun k=>D4 h.AE k fun q=>!(JW q h.AE[i])) (by omega) ?_ ?_]
    .cases b <;> rfl
    .intro L' k hk;have hkl:k<h.AE.length:=by omega
     have hj5:∀b,Fo L' k b=br (!b) (L' ((k+1:Nat):Int)) (some false):=by intro b;unfold Fo;rw [Ag hk (by omega)];cases b <;> rfl
     have hlen:(h.AE.take i).length=i:=by rw [List.length_take];omega
     have hat:at? (h.AE.take i) (k:Int)=some h.AE[k]:=by rw [AX (by omega)];simp
     rw [Ay hkl];unfold Tl JW;rw [Int.toNat_natCast,hlen,Ac hk,Ab,hat,AA];have eb:(h.AE[i].Ah==h.AE[k].Ah)=(h.AE[k].Ah==h.AE[i].Ah):=BEq.comm;simp only [AG,hj5,gt_iff_lt,eb];cases h.AE[k].Ah==h.AE[i].Ah <;> cases decide (h.AE[k].Ah<h.AE[i].Ah) <;> cases decide (h.AE[i].Since<h.AE[k].Since) <;> cases decide (h.AE[i].Ah<h.AE[k].Ah) <;> cases decide (h.AE[k].Since<h.AE[i].Since) <;> rfl
    .intro L';have hlen:(h.AE.take i).length=i:=by rw [List.length_take];omega
     unfold Tl dq;rw [Int.toNat_natCast,hlen,Ae,Ad,AG,Ag hi (by omega)]
   unfold Tk;rw [Ac hi,Ab,AX hi,AA,Js (by omega),AA,Ai,Mk];simp only [AG,hj3];generalize DU (fun k=>D4 h.AE k fun q=>!(JW q h.AE[i])) 0 i=X;by_cases h0:0<i
   .rw [decide_eq_true h0,Ab,if_pos h0,D9 i h0 (by omega),AX (show i-1<h.AE.length by omega),AA,Ay (show i-1<h.AE.length by omega)];cases EP h.AS h.AE[i] h.Now <;> cases decide (h.AE[i].Ah>=h.Ah) <;> cases decide (h.AE[i-1].Id>=h.AE[i].Id) <;> rfl
   .rw [decide_eq_false h0,Ad,if_neg h0];cases EP h.AS h.AE[i] h.Now <;> cases decide (h.AE[i].Ah>=h.Ah) <;> rfl
  .intro L;unfold Tk;rw [Ae,Ad,AG]
 have e:((h.AR.length:Int)==(h.AS.AM.length:Int))=true:=by rw [beq_iff_eq];omega
 simp only [DL (show h.AS.AM.length<2 ^ 62 by omega),E5,AA,Ai,AG,hj1,Bool.not_true,Bool.false_and,Bb,EB,bne,Bool.not_not,e,Ab,Bool.not_false,Bool.true_and];congr 1;ac_rfl
structure yK(e:GH):Prop where
 wG:BO e.BK
 log:e.C8.Log.Data.length<=1048576
 even:e.C8.QR.Data.length<=1048576
 odd:e.C8.Odd.Data.length<=1048576
 laid:e.Laid.length<=1048576
end Lv.P
namespace Lv.P
open Go (IntKind BinOp UnOp)
theorem yW{n:Nat}{F:(Int->Option Bool)->Int->Option Bool}(hl:n<2 ^ 63)(step:∀L (i:Nat),i<n->F L (i:Int)=L (w64 ((i:Int)+1)))(stop:∀L,F L (n:Int)=some true) :
 br ((n:Int) != (n:Int)) (some false) (AT F big 0)=some true:=by
 rw [Bu,if_neg (by simp)];exact uC hl (fun L i h=>by rw [step L i h,Ag h hl]) stop
theorem ne_self(a:Int):(a != a)=false:=by simp
end Lv.P
