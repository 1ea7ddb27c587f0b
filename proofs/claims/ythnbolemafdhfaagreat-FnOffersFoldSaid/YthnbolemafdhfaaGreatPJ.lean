/-
  Plain laws: a decline, a cancel.
-/
import Derived.Test.YthnbolemafdhfaaGreatPI
set_option linter.unusedVariables false
set_option linter.unusedSimpArgs false
set_option linter.unusedSectionVars false
namespace Lv.P
open Lv Go
theorem Ql{h:AA}{id:Int}(hv:verdict h ⟨5,id,0,0,0,0⟩=0):C7 h=true/\0<=CW h id:=by
 unfold verdict at hv;split at hv
 .rename_i hb;unfold Du at hv;split at hv
  .cases hv
  .split at hv
   .cases hv
   .simp at hv;unfold GR at hv;by_cases hc:CW h id<0
    .rw [if_pos hc] at hv;cases hv
    .exact⟨hb,by omega⟩
 .cases hv
noncomputable def bm(h:AA)(id:Int):AA:=Bw (Er h (par h id)) (LO (Er h (par h id)).AW (par h id).AK)
noncomputable def Fz(h:AA)(id:Int):AA×Int:=
 if verdict h ⟨5,id,0,0,0,0⟩≠0 then (h,verdict h ⟨5,id,0,0,0,0⟩) else (bm h id,0)
theorem ZW{n:Nat}(hn:n+3<=1048576){h:AA}(hh:Sm n h)(id:Int):kI h id=some (Fz h id)/\Sm (n+3) (Fz h id).1:=by
 have hf:=hh.fit (by omega);unfold kI Fz;rw [Dv hf,AD,C4 hf,AD];simp only [A7,bne_iff_ne,ne_eq];by_cases hv:verdict h ⟨5,id,0,0,0,0⟩=0
 .obtain⟨hb,p0⟩:=Ql hv;obtain⟨c0,c1,f0,f1,hid⟩:=Ux hb p0;rw [if_neg (not_not_intro hv),if_neg (not_not_intro hv),C3 hf];simp only [AD,RR p0 (Lt p0).1,Bl,KK,KL,KM,KN,I7,KO,KP,C5];have hfl:=rQ hh (par h id);show bd (WR h (par h id)) _=_/\_;rw [Me (by omega) hh c0 c1 f1,AD,ES (by have:=hfl.todo;omega),AD];have h1:=hfl.mono (Nat.le_succ (n+2));exact⟨rfl,h1.Cl,h1.BC,h1.B2,h1.B4,Nat.le_trans (Iu _ _) (by have:=hfl.todo;omega),h1.DJ⟩
 .rw [if_pos hv,if_pos hv];exact⟨rfl,hh.mono (by omega)⟩
end Lv.P
namespace Lv.P
open Lv Go
theorem VN{h:AA}{id:Int}(hv:verdict h ⟨2,id,0,0,0,0⟩=0):C7 h=true/\0<=CW h id:=by
 unfold verdict at hv;split at hv
 .rename_i hb;unfold Du at hv;split at hv
  .cases hv
  .split at hv
   .cases hv
   .simp at hv;exact⟨hb,hv⟩
 .cases hv
def Ol(h:AA)(k id:Int):AA:=BG h k ⟨(cbn h k).AM,(cbn h k).Row.eraseP (fun x=>x.Id==id),(cbn h k).BL⟩
noncomputable def cancelled(h:AA)(id:Int):AA:=
 let p:=par h id
 if p.State=2 then gone (Bw (dropped h p) (LO (dropped h p).AW p.AK)) p else gone (Ol h p.AK id) p
noncomputable def HT(h:AA)(id:Int):AA×Int:=
 if verdict h ⟨2,id,0,0,0,0⟩≠0 then (h,verdict h ⟨2,id,0,0,0,0⟩) else (cancelled h id,0)
theorem fy{h:AA}(hh:Ar h){p:AH}(h0:0<=p.AK)(h1:p.AK<h.AE.length):SC h p=some (dropped h p):=Oc hh h0 h1
theorem eG{n:Nat}(hn:n+1<=1048576){h:AA}(hh:Sm n h)(id:Int):kY h id=some (HT h id)/\Sm (n+1) (HT h id).1:=by
 have hf:=hh.fit (by omega);unfold kY HT;rw [Dv hf,AD,C4 hf,AD];simp only [A7,bne_iff_ne,ne_eq];by_cases hv:verdict h ⟨2,id,0,0,0,0⟩=0
 .obtain⟨hb,p0⟩:=VN hv;obtain⟨c0,c1,f0,f1,hid⟩:=Ux hb p0;rw [if_neg (not_not_intro hv),if_neg (not_not_intro hv),C3 hf];simp only [AD,RR p0 (Lt p0).1,Bl,KK,KL,KM,KN,I7,KO,KP,C5,beq_iff_eq,AO];show (if (par h id).State=2 then bd (SC h (par h id)) _ else bd (at? h.AE (par h id).AK) _)=_/\_;unfold cancelled;dsimp only;by_cases hs:(par h id).State=2
  .rw [if_pos hs,if_pos hs,fy hf c0 c1,AD];have hd:=Gw hh (par h id);rw [ES (by have:=hd.todo;omega),AD];have hd1:=hd.mono (Nat.le_succ n);have ht:Sm (n+1) (Bw (dropped h (par h id)) (LO (dropped h (par h id)).AW (par h id).AK)):=
    ⟨hd1.Cl,hd1.BC,hd1.B2,hd1.B4,Nat.le_trans (Iu _ _) (by have:=hd.todo;omega),hd1.DJ⟩
   unfold Ns;show bd (MR (Bw (dropped h (par h id)) (LO (dropped h (par h id)).AW (par h id).AK)) (par h id)) _=_/\_;rw [Gc (ht.fit hn) (by (have:(Bw (dropped h (par h id)) (LO (dropped h (par h id)).AW (par h id).AK)).AE.length=h.AE.length:=by simp [Bw,dropped,BG]);rw [this];exact f1),AD];exact⟨rfl,Q6 ht _⟩
  .rw [if_neg hs,if_neg hs];simp only [show at? h.AE (par h id).AK=some (cbn h (par h id).AK) from FU c0 c1,show at? h.AE (h.AB.getD (CW h id).toNat Vc).AK=some (cbn h (par h id).AK) from FU c0 c1,AD];have hc:=hh.cbn (par h id).AK;show bd (SD (cbn h (par h id).AK).Row id) _=_/\_;rw [Ma (by have:=hc.row;omega),AD];have hu:Sm n (Ol h (par h id).AK id):=hh.cab ⟨Nat.le_trans (Mo _ _) hc.row,hc.Mf,hc.pins⟩;unfold Ns;show bd (MR (Ol h (par h id).AK id) (par h id)) _=_/\_;rw [Gc (hu.fit (by omega)) (by (have:(Ol h (par h id).AK id).AE.length=h.AE.length:=by simp [Ol,BG]);rw [this];exact f1),AD];exact⟨rfl,(Q6 hu _).mono (Nat.le_succ n)⟩
 .rw [if_pos hv,if_pos hv];exact⟨rfl,hh.mono (by omega)⟩
end Lv.P
namespace Lv.P
open Lv Go
theorem VM{h:AA}{id:Int}(hv:verdict h ⟨4,id,0,0,0,0⟩=0):C7 h=true/\0<=CW h id:=by
 unfold verdict at hv;split at hv
 .rename_i hb;unfold Du at hv;split at hv
  .cases hv
  .split at hv
   .cases hv
   .simp at hv;unfold GR at hv;by_cases hc:CW h id<0
    .rw [if_pos hc] at hv;cases hv
    .exact⟨hb,by omega⟩
 .cases hv
noncomputable def Fm(h:AA)(p:AH):AA:=BG h p.AK ⟨(l8 (cbn h p.AK).AM p.AY 0 (-1) 1 0).1,(cbn h p.AK).Row,(VS (cbn h p.AK).BL ⟨p.Bh,p.Id⟩).1⟩
theorem xp{n:Nat}{h:AA}(hh:Sm n h)(p:AH):Sm n (Fm h p):=by
 have hc:=hh.cbn p.AK;have hw:=mV hc ⟨p.Bh,p.Id⟩;exact hh.cab ⟨hc.row,hw.1,hw.2⟩
noncomputable def accepted(h:AA)(id:Int):AA:=
 let p:=par h id
 if 0<=p.Ay then N9 (gone (Fm h p) p) p.Ay p.AY else gone (Fm h p) p
noncomputable def HR(h:AA)(id:Int):AA×Int:=
 if verdict h ⟨4,id,0,0,0,0⟩≠0 then (h,verdict h ⟨4,id,0,0,0,0⟩) else (accepted h id,0)
theorem cQ(h:AA)(p:AH):(gone h p).AE.length=h.AE.length:=by unfold gone;dsimp only;split <;> simp [BG]
theorem eE{n:Nat}(hn:n+1<=1048576){h:AA}(hh:Sm n h)(id:Int):kH h id=some (HR h id)/\Sm (n+1) (HR h id).1:=by
 have hf:=hh.fit (by omega);unfold kH HR;rw [Dv hf,AD,C4 hf,AD];simp only [A7,bne_iff_ne,ne_eq];by_cases hv:verdict h ⟨4,id,0,0,0,0⟩=0
 .obtain⟨hb,p0⟩:=VM hv;obtain⟨c0,c1,f0,f1,hid⟩:=Ux hb p0;rw [if_neg (not_not_intro hv),if_neg (not_not_intro hv),C3 hf];have hc:=(hf.B4 _ (Oy c0 c1)).2;have hs:=xp hh (par h id);have hl:(Fm h (par h id)).AE.length=h.AE.length:=by simp [Fm,BG]
  simp only [AD,RR p0 (Lt p0).1,show at? h.AE (h.AB.getD (CW h id).toNat Vc).AK=some (cbn h (par h id).AK) from FU c0 c1,Bl,KK,KL,KM,KN,I7,KO,KP,C5,VC,Mb hc,AO,BT,ge_iff_le,decide_eq_true_eq];rw [BP ⟨rfl,⟨by omega,by omega⟩,trivial⟩];show bd (MR (Fm h (par h id)) (par h id)) _=_/\_;rw [Gc (hs.fit (by omega)) (by rw [hl];exact f1),AD];have hg:=Q6 hs (par h id);unfold accepted Ru;dsimp only;by_cases h0:0<=(par h id).Ay
  .rw [if_pos h0];show (if 0<=(par h id).Ay then bd (WT (gone (Fm h (par h id)) (par h id)) (par h id).Ay (par h id).AY) _ else _)=_/\_;rw [if_pos h0,Od (hg.fit (by omega)) h0 (by rw [cQ,hl];exact f1),AD];exact⟨rfl,cF hg _ _⟩
  .rw [if_neg h0];show (if 0<=(par h id).Ay then _ else _)=_/\_;rw [if_neg h0];exact⟨rfl,hg.mono (Nat.le_succ n)⟩
 .rw [if_pos hv,if_pos hv];exact⟨rfl,hh.mono (by omega)⟩
end Lv.P
namespace Lv.P
open Lv Go
def GA(h:AA)(i:Nat):AA:=
 let x:=BG h i ⟨(cbn h i).AM,Bn h.AG h.AB i h.Now,(cbn h i).BL⟩
 if 0<Bk h.AB i then Bw x (LO h.AW i) else x
def FT:Nat->Nat->AA->AA
 |0,_,h=>h
 |k+1,i,h=>FT k (i+1) (GA h i)
theorem ph(h:AA)(i:Nat):(GA h i).AE.length=h.AE.length:=by unfold GA;dsimp only;split <;> simp [BG,Bw]
theorem eQ{n:Nat}{h:AA}(hh:Sm n h)(i:Nat):Sm (n+1) (GA h i):=by
 have hc:=hh.cbn (i:Int);have hq:(Bn h.AG h.AB (i:Int) h.Now).length<=n:=by
  unfold Bn;rw [FZ];exact Nat.le_trans (List.length_filterMap_le _ _) hh.BC
 have hx:Sm n (BG h i ⟨(cbn h i).AM,Bn h.AG h.AB i h.Now,(cbn h i).BL⟩):=hh.cab ⟨hq,hc.Mf,hc.pins⟩;have h1:=hx.mono (Nat.le_succ n);unfold GA;dsimp only;split
 .exact⟨h1.Cl,h1.BC,h1.B2,h1.B4,Nat.le_trans (Iu _ _) (by have:=hh.todo;omega),h1.DJ⟩
 .exact h1
theorem vD{n:Nat}{h:AA}(hh:Sm n h)(hn:n+h.AE.length<=1048576):Ap No big (0,h)=some (FT h.AE.length 0 h,0):=by
 generalize hlen:h.AE.length=len at *;refine(B8 (F:=No) (n:=len) (fun i (v:AA)=>((i:Int),v)) (fun i v=>Sm (n+i) v/\v.AE.length=len) (fun i v=>some (FT (len-i) i v,0)) (by omega) ?_ (v:=h) ⟨hh,hlen⟩).trans (by rw [Nat.sub_zero]);intro L i v ⟨hv,hvl⟩ hi ih;have hf:=hv.fit (by omega);unfold No;dsimp only;rw [hvl];rcases Nat.lt_or_ge i len with h'|h'
 .have hs:=hf.Cl;have hp:=hf.BC;rw [A4 h',BE,Je (by omega) hp,AD,FU (by omega) (by omega),AD,AD,Gb (by omega),AD];have e:FT (len-i) i v=FT (len-(i+1)) (i+1) (GA v i):=by rw [show len-i=(len-(i+1))+1 by omega];rfl
  rw [e];have hst:=ih (GA v i) ⟨by have:=eQ hv i;rw [Nat.add_assoc] at this;exact this,by rw [ph];exact hvl⟩ h';rw [<-hst];unfold Rv GA;simp only [BT,gt_iff_lt,AO,Av h' (show len<2 ^ 63 by omega),Int.toNat_natCast,ES hf.todo,AD];split <;> rfl
 .have:i=len:=by omega
  subst this;rw [A3,A9,AO,Nat.sub_self];rfl
end Lv.P
namespace Lv.P
open Lv Go
def VI(h:AA):AA:=FT h.AE.length 0 ⟨h.AG,w64 (h.Now+1),h.AQ,h.AB,h.AE,h.AW,h.AS⟩
noncomputable def Qd(h:AA):AA×Int:=
 if verdict h ⟨6,0,0,0,0,0⟩≠0 then (h,verdict h ⟨6,0,0,0,0,0⟩) else (VI h,0)
theorem eR:∀(k i:Nat) {n:Nat} {h:AA},Sm n h->Sm (n+k) (FT k i h)
 |0,_,_,_,hh=>hh
 |k+1,i,n,h,hh=>by have:=eR k (i+1) (eQ hh i);rw [Nat.add_assoc,Nat.add_comm 1 k] at this;exact this
theorem pd{n:Nat}{h:AA}(hh:Sm n h)(hn:n+h.AE.length<=1048576):kJ h=some (Qd h)/\Sm (n+h.AE.length) (Qd h).1:=by
 have hf:=hh.fit (by omega);unfold kJ Qd;rw [Dv hf,AD,C4 hf,AD];simp only [A7,bne_iff_ne,ne_eq];have h':Sm n ⟨h.AG,w64 (h.Now+1),h.AQ,h.AB,h.AE,h.AW,h.AS⟩:=⟨hh.Cl,hh.BC,hh.B2,hh.B4,hh.todo,hh.DJ⟩;by_cases hv:verdict h ⟨6,0,0,0,0,0⟩=0
 .rw [if_neg (not_not_intro hv),if_neg (not_not_intro hv),vD h' hn];exact⟨rfl,eR _ _ h'⟩
 .rw [if_pos hv,if_pos hv];exact⟨rfl,hh.mono (by omega)⟩
noncomputable def bt(w:AU)(now:Int):List Int:=(Dn w).filterMap fun p=>if p.At<=now then some p.Id else none
theorem ZY{w:AU}(hw:CD w)(now:Int):bF w now=some ((Dn w).filter fun p=>decide (p.At<=now)):=by
 have hlim:lim=268435456:=rfl;have hl:=M7 hw;unfold bF;rw [QZ hw,AD,collect (l:=Dn w) (fun p=>if p.At<=now then some p else none) some hl ?_ ?_]
 .congr 1;generalize Dn w=l
  induction l with
  |nil=>rfl
  |cons p l ih=>
   rw [List.filterMap_cons,List.filter_cons,ih];by_cases h:p.At<=now <;> simp [h]
 .intro L i h v hv;unfold Rz Ry;dsimp only;rw [A4 h,BE];simp only [Af h,AD,BT,AO,BP (show v.length+[(Dn w)[i]].length<=lim by rw [Ht];omega)];split <;> simp
 .intro L v;unfold Rz bG;dsimp only;rw [A3,A9,AO]
theorem eJ{h:AA}(hh:Ar h){k:Int}(h0:0<=k)(h1:k<h.AE.length):kK h k=some (bt (cbn h k).BL h.Now):=by
 have hlim:lim=268435456:=rfl;have hw:=(hh.B4 _ (Oy h0 h1)).2;have hl:=M7 hw;unfold kK;rw [FU h0 h1,AD];show bd (bF (cbn h k).BL h.Now) _=_;rw [ZY hw,AD];generalize hD:(Dn (cbn h k).BL).filter (fun p=>decide (p.At<=h.Now))=D;have hDl:D.length<=1048576:=by rw [<-hD];exact Nat.le_trans (List.length_filter_le _ _) hl
 rw [collect (l:=D) (fun p=>some p.Id) some hDl ?_ ?_]
 .unfold bt;rw [<-hD];congr 1;generalize Dn (cbn h k).BL=l
  induction l with
  |nil=>rfl
  |cons p l ih=>
   rw [List.filterMap_cons,List.filter_cons];by_cases hc:p.At<=h.Now
   .simp only [hc,decide_true,if_true,List.filterMap_cons,ih]
   .simp only [hc,decide_false,if_false,ih,Bool.false_eq_true]
 .intro L i hi v hv;unfold R0;dsimp only;rw [A4 hi,BE];simp only [Af hi,AD,BP (show v.length+[D[i].Id].length<=lim by rw [Ht];omega)];rfl
 .intro L v;unfold R0 bH;dsimp only;rw [A3,A9,AO]
end Lv.P
namespace Lv.P
open Lv Go
section
variable{α:Type}{lt:α->α->Bool}
theorem OP(a:α):∀l:List α,(put lt a l).Perm (a::l)
 | []=>.refl _
 |z::l=>by
  unfold put;split
  .exact((OP a l).cons z).trans (.swap a z l)
  .exact .refl _
theorem Gp:∀l:List α,(BY lt l).Perm l
 | []=>.refl _
 |a::l=>(OP a _).trans ((Gp l).cons a)
def Jm(lt:α->α->Bool)(l:List α):Prop:=l.Pairwise fun a b=>lt a b=true\/lt b a=true
theorem Jm.perm{l1 l2:List α}(h:Jm lt l1)(hp:l1.Perm l2):Jm lt l2:=(hp.pairwise_iff (fun h=>h.symm)).1 h
theorem F8(h:Swo lt){l:List α}(hd:Jm lt l):(BY lt l).Pairwise fun a b=>lt a b=true:=by
 have h1:(BY lt l).Pairwise fun a b=>lt b a=false:=Lj h l
 have h2:Jm lt (BY lt l):=hd.perm (Gp (lt:=lt) l).symm;exact(h1.and h2).imp fun {a b} ⟨h3,h4⟩=>h4.resolve_right (by rw [h3];simp)
theorem XJ(h:Swo lt):∀{l1 l2:List α},(l1.Pairwise fun a b=>lt a b=true)->(l2.Pairwise fun a b=>lt a b=true)->l1.Perm l2->l1=l2
 | [],l2,_,_,hp=>hp.nil_eq
 |a::l1,[],_,_,hp=>by cases hp.eq_nil
 |a::l1,b::l2,h1,h2,hp=>by
  rw [List.pairwise_cons] at h1 h2;by_cases e:a=b
  .subst e;rw [XJ h h1.2 h2.2 hp.cons_inv]
  .have h3:a∈l2:=(List.mem_cons.1 (hp.subset (List.mem_cons_self ..))).resolve_left e;have h4:b∈l1:=(List.mem_cons.1 (hp.symm.subset (List.mem_cons_self ..))).resolve_left (Ne.symm e);have:=h.fO _ _ (h1.1 b h4);rw [h2.1 a h3] at this;cases this
theorem xq(h:Swo lt){l1 l2:List α}(hd:Jm lt l1)(hp:l1.Perm l2):BY lt l1=BY lt l2:=
 XJ h (F8 h hd) (F8 h (hd.perm hp)) ((Gp l1).trans (hp.trans (Gp l2).symm))
end
structure Uni(ps:List AH):Prop where
 id:ps.Pairwise fun p q=>p.Id≠q.Id
 Dt:ps.Pairwise fun p q=>p.AQ≠q.AQ
theorem Uni.perm{a b:List AH}(h:Uni a)(hp:a.Perm b):Uni b:=⟨(hp.pairwise_iff (fun h=>Ne.symm h)).1 h.id,(hp.pairwise_iff (fun h=>Ne.symm h)).1 h.Dt⟩
theorem Uni.tail{p:AH}{b:List AH}(h:Uni (p::b)):Uni b:=⟨(List.pairwise_cons.1 h.id).2,(List.pairwise_cons.1 h.Dt).2⟩
theorem I6{r:AN}{now:Int}{p:AH}(hp:Bc r p now=true)(hs:p.State=1):C1 r p now=(⟨D4 r p now,p.AQ,p.Id,p.AY⟩,true):=by
 unfold C1;rw [if_pos ⟨hp,hs⟩]
theorem QE{r:AN}{now:Int}{p:AH}(h:¬(Bc r p now=true/\p.State=1)):C1 r p now=(⟨0,0,0,0⟩,false):=by
 unfold C1;rw [if_neg h]
theorem Dx{r:AN}{c now:Int}{p:AH}{e:AT}(h:JZ r c now p=some e):e=⟨D4 r p now,p.AQ,p.Id,p.AY⟩/\Bc r p now=true/\p.State=1/\p.AK=c:=by
 unfold JZ at h;by_cases h2:Bc r p now=true/\p.State=1
 .rw [I6 h2.1 h2.2] at h;by_cases h3:p.AK=c
  .simp [h3] at h;exact⟨h.symm,h2.1,h2.2,h3⟩
  .simp [h3] at h
 .rw [QE h2] at h;simp at h
theorem nW{r:AN}{now:Int}{p:AH}(hp:Bc r p now=true)(hs:p.State=1)(c:Int):JZ r c now p=if p.AK=c then some ⟨D4 r p now,p.AQ,p.Id,p.AY⟩ else none:=by
 unfold JZ;rw [I6 hp hs];simp
theorem su{r:AN}{c now:Int}{p:AH}(hs:p.State≠1):JZ r c now p=none:=by
 unfold JZ;rw [QE (fun h=>hs h.2)];simp
theorem Il{c:Int}{p:AH}{e:Ag}(h:MK c p=some e):e=⟨p.Bh,p.Id⟩/\p.State=2/\p.AK=c:=by
 unfold MK at h;split at h
 .rename_i h1;simp only [Bool.and_eq_true,beq_iff_eq] at h1;exact⟨(Option.some.inj h).symm,h1.1,h1.2⟩
 .cases h
theorem qJ{ps:List AH}(h:Uni ps)(r:AN)(c now:Int):Jm ltE (ps.filterMap (JZ r c now)):=by
 unfold Jm;rw [List.pairwise_filterMap];refine h.Dt.imp ?_;intro p q hne a ha b hb;obtain⟨rfl,_⟩:=Dx ha;obtain⟨rfl,_⟩:=Dx hb;rw [Ll,Ll];dsimp only;omega
theorem dY{ps qs:List AH}(h:Uni ps)(hp:ps.Perm qs)(r:AN)(c now:Int):Bn r ps c now=Bn r qs c now:=xq lh (qJ h r c now) (hp.filterMap _)
theorem M6{ps qs:List AH}(hp:ps.Perm qs)(c:Int):Dc ps c=Dc qs c:=Tg CP OE (hp.filterMap _)
theorem LF(r:AN)(p:AH)(ps:List AH)(c now:Int):Bn r (p::ps) c now=match JZ r c now p with|some e=>put ltE e (Bn r ps c now)|none=>Bn r ps c now:=by
 unfold Bn;rw [List.filterMap_cons];cases JZ r c now p <;> rfl
theorem M5(p:AH)(ps:List AH)(c:Int):Dc (p::ps) c=match MK c p with|some e=>put ltP e (Dc ps c)|none=>Dc ps c:=by
 unfold Dc;rw [List.filterMap_cons];cases MK c p <;> rfl
theorem Gz(f:AH->Int)(g:Int->AH->Int)(hg:∀n p,g n p=n+f p):∀(l:List AH) (n:Int),l.foldl g n=n+l.foldl g 0
 | [],n=>by simp
 |p::l,n=>by rw [List.foldl_cons,List.foldl_cons,Gz f g hg l,Gz f g hg l (g 0 p),hg,hg];omega
def OA(c:Int)(p:AH):Int:=if ((p.State==2)&&((p.AK==c)&&inB p.AY 1 6))=true then p.AY else 0
def XU(c:Int)(p:AH):Int:=if ((p.Ay==c)&&inB p.AY 1 6)=true then p.AY else 0
def wF(c:Int)(p:AH):Int:=if (p.AK==c)=true then 1 else 0
theorem lX(c n:Int)(p:AH):QO c n p=n+OA c p:=by unfold QO OA;split <;> omega
theorem mQ(c n:Int)(p:AH):Qe c n p=n+XU c p:=by unfold Qe XU;split <;> omega
theorem aN(c n:Int)(p:AH):Hr c n p=n+wF c p:=by unfold Hr wF;split <;> omega
theorem G4(p:AH)(ps:List AH)(c:Int):FM (p::ps) c=OA c p+FM ps c:=by
 unfold FM;rw [List.foldl_cons,Gz _ _ (lX c),lX];omega
theorem NI(p:AH)(ps:List AH)(c:Int):FH (p::ps) c=XU c p+FH ps c:=by
 unfold FH;rw [List.foldl_cons,Gz _ _ (mQ c),mQ];omega
theorem QA(p:AH)(ps:List AH)(c:Int):Bk (p::ps) c=wF c p+Bk ps c:=by
 unfold Bk;rw [List.foldl_cons,Gz _ _ (aN c),aN];omega
theorem Og{F:List AH->Int}{f:AH->Int}(hF:∀p l,F (p::l)=f p+F l){a b:List AH}(hp:a.Perm b):F a=F b:=by
 induction hp with
 |nil=>rfl
 |cons x _ ih=>rw [hF,hF,ih]
 |swap x y l=>rw [hF,hF,hF,hF];omega
 |trans _ _ h1 h2=>exact h1.trans h2
theorem fx{a b:List AH}(hp:a.Perm b)(c:Int):FM a c=FM b c:=Og (F:=fun l=>FM l c) (fun p l=>G4 p l c) hp
theorem jJ{a b:List AH}(hp:a.Perm b)(c:Int):FH a c=FH b c:=Og (F:=fun l=>FH l c) (fun p l=>NI p l c) hp
theorem J7{a b:List AH}(hp:a.Perm b)(c:Int):Bk a c=Bk b c:=Og (F:=fun l=>Bk l c) (fun p l=>QA p l c) hp
theorem jH{F:List AH->Int}{f:AH->Int}(h0:F []=0)(hF:∀p l,F (p::l)=f p+F l)(hf:∀p,0<=f p):∀l,0<=F l
 | []=>by omega
 |p::l=>by have:=hf p;have:=jH h0 hF hf l;rw [hF];omega
theorem rZ(c:Int)(p:AH):0<=OA c p:=by
 unfold OA;split
 .rename_i h;simp only [Bool.and_eq_true,BH] at h;omega
 .omega
theorem vE(c:Int)(p:AH):0<=XU c p:=by
 unfold XU;split
 .rename_i h;simp only [Bool.and_eq_true,BH] at h;omega
 .omega
theorem cS(l:List AH)(c:Int):0<=FM l c:=jH (F:=fun l=>FM l c) rfl (fun p l=>G4 p l c) (rZ c) l
theorem eT(l:List AH)(c:Int):0<=FH l c:=jH (F:=fun l=>FH l c) rfl (fun p l=>NI p l c) (vE c) l
def wOf(S:List Ag):AU:=⟨(List.range 9).map fun i=>S.filter (CB i)⟩
theorem RG(S:List Ag):(wOf S).AP.length=9:=by simp [wOf]
theorem RF(S:List Ag){i:Nat}(h:i<(wOf S).AP.length):(wOf S).AP[i]=S.filter (CB i):=by simp [wOf]
theorem fB(S:List Ag){i:Nat}(h:i<9):(wOf S).AP.getD i []=S.filter (CB i):=by
 rw [List.getD_eq_getElem?_getD,List.getElem?_eq_getElem (by rw [RG];exact h),Option.getD_some,RF]
theorem Zq{S T:List Ag}{k:Nat}(hk:k<9)(h:∀i,i<9->i≠k->T.filter (CB i)=S.filter (CB i)):(⟨(wOf S).AP.set k (T.filter (CB k))⟩:AU)=wOf T:=by
 unfold wOf;congr 1;apply List.ext_getElem
 .simp
 .intro i h1 h2;have hi:i<9:=by simpa using h2
  rw [List.getElem_set];split
  .rename_i e;subst e;simp
  .rename_i e;simp only [List.getElem_map,List.getElem_range];rw [h i hi (Ne.symm e)]
theorem VR:∀{S:List Ag},(∀p∈S,1<=p.At)->(wOf S).AP.flatten.Perm S
 | [],_=>by simp [wOf]
 |p::S,h=>by
  obtain⟨k,hk,e⟩:=VJ (h p (List.mem_cons_self ..));have ih:=VR (S:=S) fun q hq=>h q (List.mem_cons_of_mem _ hq)
  have hon:CB k p=true:=Cz.2 e;have h1:=Zq (S:=S) (T:=p::S) hk (by
   intro i hi hne;have:CB i p=false:=by
    cases hc:CB i p with
    |false=>rfl
    |true=>rw [Cz,e] at hc;omega
   simp [List.filter_cons,this])
  rw [<-h1];have hl:k<(wOf S).AP.length:=by rw [RG];exact hk
  have h2:(p::S).filter (CB k)=p::(wOf S).AP[k]:=by rw [RF];simp [List.filter_cons,hon]
  rw [h2];dsimp only;rw [List.set_eq_take_append_cons_drop,if_pos hl,List.flatten_append,List.flatten_cons,List.cons_append];refine(List.perm_middle).trans (List.Perm.cons p ?_);rw [<-List.flatten_cons,<-List.flatten_append,<-Ch hl,List.take_append_drop];exact ih
structure H3(S:List Ag):Prop where
 few:S.length<=10
 pins:∀p∈S,ZC p=true
 ids:S.Pairwise fun a b=>a.Id≠b.Id
 srt:S.Pairwise fun a b=>ltP a b=true
theorem P1{S:List Ag}(h:H3 S):Ho (wOf S):=by
 have hp:=VR fun p hp=>(JX (h.pins p hp)).1.1
 refine⟨RG S,by rw [hp.length_eq];exact h.few,fun p hq=>h.pins p (hp.subset hq),(hp.pairwise_iff (fun h=>Ne.symm h)).2 h.ids,?_,?_⟩
 .intro i hi k hk;have:(wOf S).AP[i][k]∈S.filter (CB i):=by rw [<-RF S hi];exact List.getElem_mem hk
  exact Cz.1 (List.mem_filter.1 this).2
 .intro i hi k hk;have h1:(S.filter (CB i)).Pairwise fun a b=>ltP a b=true:=h.srt.filter _
  rw [<-RF S hi] at h1;exact List.pairwise_iff_getElem.1 h1 k (k+1) (by omega) hk (by omega)
theorem fC{S:List Ag}(h:H3 S):Dn (wOf S)=S:=by
 have hp:=VR fun p hp=>(JX (h.pins p hp)).1.1
 unfold Dn;rw [if_pos (B1.2 (P1 h)),Tg CP OE hp,IU CP h.srt]
theorem zj{w:AU}(hw:FJ w=true):w=wOf (Dn w):=by
 unfold Dn;rw [if_pos hw];exact P3 (B1.1 hw)
end Lv.P
namespace Lv.P
open Lv Go
structure NM(r:AN)(ps:List AH)(now:Int)(i:Nat)(c:AZ):Prop where
 row:c.Row=Bn r ps i now
 Cw:c.BL=wOf (Dc ps i)
 total:c.AM.Total=r.AM.getD i 0
 held:c.AM.Cp=FM ps i
 EY:c.AM.EB=FH ps i
 led:CO c.AM=true
 room:Bk ps i<=r.Room
structure Iv(r:AN)(now Dt:Int)(ps:List AH):Prop where
 few:ps.length<=40
 par:∀p∈ps,Bc r p now=true/\p.AQ<Dt
 ids:ps.Pairwise fun p q=>p.Id<q.Id
 turns:ps.Pairwise fun p q=>ED p q=false
structure RH(h:AA):Prop where
 rules:DY h.AG=true
 now:0<=h.Now/\h.Now<=1000000
 Dt:1<=h.AQ/\h.AQ<=1000001
 B2:h.AE.length=h.AG.AM.length
 Dm:Iv h.AG h.Now h.AQ h.AB
 cab:∀i (hi:i<h.AE.length),NM h.AG h.AB h.Now i h.AE[i]
 todo:EV h.AW h.AE.length=true
 DJ:GM h.AS h.AE.length=true
 K8:(h.AS.length:Int)=h.AG.Cc
theorem fZ(p q:AH):ED p q=ED q p:=by
 unfold ED;have e:(p.AQ==q.AQ)=(q.AQ==p.AQ):=by rw [Bool.eq_iff_iff];simp only [beq_iff_eq];omega
 rw [e,Bool.or_comm (decide (p.AQ<q.AQ)&&_)]
theorem qv{p q:AH}(h:ED p q=false):p.AQ≠q.AQ:=by
 unfold ED at h;simp only [Bool.or_eq_false_iff,beq_eq_false_iff_ne] at h;exact h.1
theorem Iv.uni{r:AN}{now Dt:Int}{ps:List AH}(h:Iv r now Dt ps):Uni ps:=⟨h.ids.imp fun h=>by omega,h.turns.imp fun h=>qv h⟩
theorem Tq:Swo E9:=⟨fun a b h=>by unfold E9 at *;simp only [decide_eq_true_eq,decide_eq_false_iff_not] at *;omega,fun a b c h=>by unfold E9 at *;simp only [decide_eq_true_eq] at *;omega⟩
theorem QU{h:AA}:G9 h=true↔(∀p∈h.AB,Bc h.AG p h.Now=true/\p.AQ<h.AQ)/\(h.AB.Pairwise fun p q=>p.Id<q.Id)/\h.AB.Pairwise fun p q=>ED p q=false:=by
 have hat:∀i (hi:i<h.AB.length),Wu h i=true↔Bc h.AG h.AB[i] h.Now=true/\h.AB[i].AQ<h.AQ/\(∀j (hj:j<h.AB.length),j+1=i->h.AB[j].Id<h.AB[i].Id)/\∀j (hj:j<i),ED h.AB[j] h.AB[i]=false:=by
  intro i hi;unfold Wu;rw [BB hi];simp only [Bool.and_eq_true,Bool.not_eq_true',decide_eq_false_iff_not,GN];have e1:¬(h.AB[i].AQ>=h.AQ)↔h.AB[i].AQ<h.AQ:=by omega
  have e2:(if 0<i then FX h.AB (i-1) (fun q=>!decide (q.Id>=h.AB[i].Id)) else true)=true↔∀j (hj:j<h.AB.length),j+1=i->h.AB[j].Id<h.AB[i].Id:=by
   split
   .rename_i h0;rw [BB (show i-1<h.AB.length by omega)];simp only [Bool.not_eq_true',decide_eq_false_iff_not];constructor
    .intro g j hj e;have:j=i-1:=by omega
     subst this;omega
    .intro g;have:=g (i-1) (by omega) (by omega);omega
   .rename_i h0;exact⟨fun _ j hj e=>by omega,fun _=>rfl⟩
  have e3:(∀k,k<i->FX h.AB k (fun q=>!ED q h.AB[i])=true)↔∀j (hj:j<i),ED h.AB[j] h.AB[i]=false:=by
   constructor
   .intro g j hj;have:=g j hj;rw [BB (show j<h.AB.length by omega)] at this;simpa using this
   .intro g j hj;rw [BB (show j<h.AB.length by omega)];simpa using g j hj
  rw [e1,e2,e3]
 unfold G9;rw [GN];constructor
 .intro g;have g':=fun i hi=>(hat i hi).1 (g i hi)
  refine⟨?_,?_,?_⟩
  .intro p hp;obtain⟨i,hi,rfl⟩:=List.mem_iff_getElem.1 hp;exact⟨(g' i hi).1,(g' i hi).2.1⟩
  .have:=Gu (lt:=E9) Tq (l:=h.AB) fun k hk=>by
    unfold E9;rw [decide_eq_true_iff];exact(g' (k+1) hk).2.2.1 k (by omega) rfl
   exact this.imp fun h=>by unfold E9 at h;simpa using h
  .rw [List.pairwise_iff_getElem];intro i j hi hj hij;exact(g' j hj).2.2.2 i hij
 .rintro⟨g1,g2,g3⟩ i hi;rw [hat i hi];exact⟨(g1 _ (List.getElem_mem hi)).1,(g1 _ (List.getElem_mem hi)).2,fun j hj e=>List.pairwise_iff_getElem.1 g2 j i hj hi (by omega),fun j hj=>List.pairwise_iff_getElem.1 g3 j i (by omega) hi hj⟩
theorem rz{r:AN}{p:AH}{now:Int}(h:Bc r p now=true):0<=D4 r p now/\D4 r p now<=4:=by
 have hp:=Cb h;have hr:=BN hp.1;have h1:=Wp r p.Bb (w64 (now-p.Since));unfold D4;rw [if_pos h];refine⟨h1,?_⟩;unfold Tp;rw [Ai (n:=now-p.Since) (by omega) (by omega)];have h2:0<=(now-p.Since).tdiv r.CI:=Int.tdiv_nonneg (by omega) (by omega);have h3:(now-p.Since).tdiv r.CI<=now-p.Since:=by rw [Int.tdiv_eq_ediv_of_nonneg (by omega)];exact Int.ediv_le_self _ (by omega)
 rw [Ai (n:=(now-p.Since).tdiv r.CI) (by omega) (by omega),Ai (by omega) (by omega)];split <;> omega
theorem HC{r:AN}{ps:List AH}{c now:Int}{e:AT}(h:e∈Bn r ps c now):∃p∈ps,JZ r c now p=some e:=by
 unfold Bn at h;rw [IV,List.mem_filterMap] at h;exact h
theorem Ww{ps:List AH}{c:Int}{e:Ag}(h:e∈Dc ps c):∃p∈ps,MK c p=some e:=by
 unfold Dc at h;rw [IV,List.mem_filterMap] at h;exact h
theorem iz{r:AN}{ps:List AH}(h:Uni ps)(c now:Int):(Bn r ps c now).Pairwise fun a b=>a.Id≠b.Id:=by
 refine((Gp _).pairwise_iff (fun h=>Ne.symm h)).2 ?_;rw [List.pairwise_filterMap];refine h.id.imp ?_;intro p q hne a ha b hb;obtain⟨rfl,_⟩:=Dx ha;obtain⟨rfl,_⟩:=Dx hb;exact hne
theorem M9(r:AN)(ps:List AH)(c now:Int):((Bn r ps c now).length:Int)<=Bk ps c:=by
 unfold Bn;rw [FZ];exact lU _ c (by intro p h;unfold JZ;rw [h,Bool.and_false];rfl) ps
theorem nQ(ps:List AH)(c:Int):((Dc ps c).length:Int)<=Bk ps c:=by
 unfold Dc;rw [FZ];exact lU _ c (by intro p h;unfold MK;rw [h,Bool.and_false];rfl) ps
theorem sv{r:AN}{ps:List AH}{now Dt:Int}(hp:Iv r now Dt ps){c:Int}(hr:Bk ps c<=10):Uj (Bn r ps c now)=true:=by
 have hu:=hp.uni;have hl:=M9 r ps c now;unfold Uj;rw [Bool.and_eq_true,GN];refine⟨by simp;omega,?_⟩;intro k hk;unfold qAt;rw [BB hk];obtain⟨p,hpm,he⟩:=HC (List.getElem_mem hk);obtain⟨e1,e2,e3,e4⟩:=Dx he;have hlv:=rz e2;have hk1:=Cb e2;have hru:=BN hk1.1;simp only [Bool.and_eq_true,Bool.not_eq_true',decide_eq_false_iff_not];refine⟨?_,?_,?_⟩
 .rw [e1];unfold y1;simp only [Bool.and_eq_true,BH];omega
 .split
  .rw [BB (show k-1<(Bn r ps c now).length by omega)];exact List.pairwise_iff_getElem.1 (F8 lh (qJ hu r c now)) (k-1) k (by show k-1<(Bn r ps c now).length;omega) hk (by omega)
  .rfl
 .have:atF (fun x:AT=>x.Id==(Bn r ps c now)[k].Id) ((Bn r ps c now).take k) 0<0:=by
   rw [Z7];intro x hx;obtain⟨j,hj,rfl⟩:=List.mem_iff_getElem.1 hx;rw [List.length_take] at hj;rw [List.getElem_take,beq_eq_false_iff_ne];exact List.pairwise_iff_getElem.1 (iz hu c now) j k (by omega) hk (by omega)
  omega
theorem ON{r:AN}{ps:List AH}{now Dt:Int}(hp:Iv r now Dt ps){c:Int}(hr:Bk ps c<=10):H3 (Dc ps c):=by
 have hl:=nQ ps c;have hids:(ps.filterMap (MK c)).Pairwise fun a b=>a.Id≠b.Id:=by
  rw [List.pairwise_filterMap];refine hp.uni.id.imp ?_;intro p q hne a ha b hb;obtain⟨rfl,_⟩:=Il ha;obtain⟨rfl,_⟩:=Il hb;exact hne
 refine⟨by omega,?_,((Gp _).pairwise_iff (fun h=>Ne.symm h)).2 hids,F8 CP (hids.imp ?_)⟩
 .intro e he;obtain⟨p,hpm,hs⟩:=Ww he;obtain⟨rfl,hs2,_⟩:=Il hs;have hk:=Cb (hp.par p hpm).1;have hru:=BN hk.1;unfold ZC;simp only [Bool.and_eq_true,BH];omega
 .intro a b hne;cases h1:ltP a b with
  |true=>exact .inl rfl
  |false=>
   cases h2:ltP b a with
   |true=>exact .inr rfl
   |false=>exact absurd (congrArg Ag.Id (OE a b h1 h2)) hne
theorem IT{h:AA}:C7 h=true↔RH h:=by
 constructor
 .intro hb;obtain⟨h1,h2,h3,h4,h5,h6,h7,h8,h9,h10⟩:=Wh hb;obtain⟨g1,g2,g3⟩:=QU.1 h6;refine⟨h1,h2,h3,h5,⟨h4,g1,g2,g3⟩,?_,h7,h8,h9⟩;intro i hi;have hs:i<h.AG.AM.length:=by omega
  have hk:=GN.1 h10 i hi;unfold Vv at hk;rw [BB hi,BB hs] at hk;unfold Iw Ox at hk;simp only [Bool.and_eq_true,beq_iff_eq,Bool.not_eq_true',decide_eq_false_iff_not,Fk YV,Fk YX] at hk;obtain⟨k1,⟨⟨l1,k3,k4⟩,k5,k6,k7,k8⟩,k9⟩:=hk;refine⟨k5,?_,?_,k7,k8,l1,by omega⟩
  .rw [<-k6];exact zj k4
  .rw [k1];simp [List.getD,hs]
 .intro hR;unfold C7;have hru:=BN hR.rules;simp only [Bool.and_eq_true,BH,Bool.not_eq_true',decide_eq_false_iff_not,beq_iff_eq];refine⟨hR.rules,hR.now,hR.Dt,by have:=hR.Dm.few;omega,by rw [hR.B2],QU.2 ⟨hR.Dm.par,hR.Dm.ids,hR.Dm.turns⟩,⟨hR.todo,hR.DJ,hR.K8⟩,?_⟩;unfold LW;rw [GN];intro i hi;have hs:i<h.AG.AM.length:=by have:=hR.B2;omega
  have hc:=hR.cab i hi;have hro:Bk h.AB i<=10:=by have:=hc.room;omega
  have hpo:=ON hR.Dm hro;unfold Vv Iw Ox;rw [BB hi,BB hs];simp only [Bool.and_eq_true,beq_iff_eq,Bool.not_eq_true',decide_eq_false_iff_not,Fk YV,Fk YX];refine⟨?_,⟨⟨hc.led,?_,?_⟩,hc.row,?_,hc.held,hc.EY⟩,by have:=hc.room;omega⟩
  .rw [hc.total];simp [List.getD,hs]
  .rw [hc.row];exact sv hR.Dm hro
  .rw [hc.Cw];exact B1.2 (P1 hpo)
  .rw [hc.Cw];exact fC hpo
end Lv.P
namespace Lv.P
open Lv Go
theorem D3{l:Am}:CO l=true↔(1<=l.Total/\l.Total<=60)/\(0<=l.Co/\l.Co<=l.Total)/\(0<=l.Cp/\l.Cp<=l.Total)/\(0<=l.Dz/\l.Dz<=l.Total)/\l.Co+l.Cp+l.Dz=l.Total/\0<=l.EB/\l.EB<=l.Dz:=by
 unfold CO;simp only [Bool.and_eq_true,BH,beq_iff_eq];constructor
 .rintro⟨h1,h2,h3,h4,h5,h6⟩;rw [Ai (n:=l.Co+l.Cp) (by omega) (by omega),Ai (by omega) (by omega)] at h5;exact⟨h1,h2,h3,h4,h5,h6⟩
 .rintro⟨h1,h2,h3,h4,h5,h6⟩;rw [Ai (n:=l.Co+l.Cp) (by omega) (by omega),Ai (by omega) (by omega)];exact⟨h1,h2,h3,h4,h5,h6⟩
theorem Wk{l:Am}(hl:CO l=true){n a b c d:Int}(hn:0<=n/\n<=60)(ha:a = -1\/a=0\/a=1)(hb:b = -1\/b=0\/b=1)(hc:c = -1\/c=0\/c=1)(hd:d = -1\/d=0\/d=1)
 (h':CO ⟨l.Total,l.Co+a*n,l.Cp+b*n,l.Dz+c*n,l.EB+d*n⟩=true):l8 l n a b c d=(⟨l.Total,l.Co+a*n,l.Cp+b*n,l.Dz+c*n,l.EB+d*n⟩,true):=by
 have hk:=D3.1 hl;have w:∀a x:Int,(a = -1\/a=0\/a=1)->0<=x->x<=60->w64 (x+w64 (a*n))=x+a*n:=by
  intro a x ha h0 h1;have:-60<=a*n/\a*n<=60:=by rcases ha with rfl|rfl|rfl <;> omega
  rw [Ai (n:=a*n) (by omega) (by omega),Ai (by omega) (by omega)]
 have e1:=w a l.Co ha (by omega) (by omega);have e2:=w b l.Cp hb (by omega) (by omega);have e3:=w c l.Dz hc (by omega) (by omega);have e4:=w d l.EB hd (by omega) (by omega);unfold l8;rw [e1,e2,e3,e4];rw [if_pos];exact⟨hl,by rw [BH];exact hn,h'⟩
section
variable{α:Type}{lt:α->α->Bool}
theorem IN{p:α->Bool}{a:α}(ha:p a=true):∀{l:List α},(∀x∈l,p x=false)->(put lt a l).eraseP p=l
 | [],_=>by simp [put,ha]
 |z::l,h=>by
  unfold put;split
  .rw [List.eraseP_cons_of_neg (by rw [h z (List.mem_cons_self ..)];simp),IN ha fun x hx=>h x (List.mem_cons_of_mem _ hx)]
  .rw [List.eraseP_cons_of_pos ha]
theorem mE(a:α):∀l:List α,l.Sublist (put lt a l)
 | []=>List.nil_sublist _
 |z::l=>by
  unfold put;split
  .exact(mE a l).cons_cons z
  .exact List.sublist_cons_self ..
theorem fj{p:α->Bool}{l:List α}{k:Nat}(hk:k<l.length)(e:l.eraseP p=l.take k++l.drop (k+1)):l.Perm (l[k]::l.eraseP p):=by
 rw [e];have:l=l.take k++l[k]::l.drop (k+1):=by rw [<-Ch hk,List.take_append_drop]
 conv=>lhs;rw [this]
 exact List.perm_middle
theorem set_perm{p:α->Bool}{l:List α}{k:Nat}(hk:k<l.length)(e:l.eraseP p=l.take k++l.drop (k+1))(a:α):(l.set k a).Perm (a::l.eraseP p):=by
 rw [e,List.set_eq_take_append_cons_drop,if_pos hk];exact List.perm_middle
end
theorem H3.sub{S T:List Ag}(h:H3 T)(hs:S.Sublist T):H3 S:=⟨Nat.le_trans hs.length_le h.few,fun p hp=>h.pins p (hs.subset hp),h.ids.sublist hs,h.srt.sublist hs⟩
theorem Yh{p x:Ag}:isP p x=true↔x=p:=by
 unfold isP;obtain⟨a,b⟩:=p;obtain⟨c,d⟩:=x;simp
theorem Ui{S:List Ag}{p:Ag}(h:H3 (put ltP p S)):ZC p=true/\H3 S/\∀x∈S,isP p x=false:=by
 have h2:=h.sub (mE p S);refine⟨h.pins p (Lw.2 (.inl rfl)),h2,fun x hx=>?_⟩;cases hc:isP p x with
 |false=>rfl
 |true=>
  rw [Yh] at hc;subst hc;have:=((OP (lt:=ltP) x S).pairwise_iff (fun h=>Ne.symm h)).1 h.ids;exact absurd rfl ((List.pairwise_cons.1 this).1 x hx)
theorem mU{S:List Ag}{p:Ag}(h:H3 (put ltP p S)){k:Nat}(hk:k<9)(e:p.At.tmod 9=(k:Int)):(put ltP p S).filter (CB k)=put ltP p (S.filter (CB k))/\∀i,i<9->i≠k->(put ltP p S).filter (CB i)=S.filter (CB i):=by
 have hs:Srt ltP S:=(Ui h).2.1.srt.imp fun {a b} h=>CP.fO _ _ h
 constructor
 .rw [JB CP _ _ hs,if_pos (Cz.2 e)]
 .intro i hi hne;rw [JB CP _ _ hs,if_neg];rw [Cz,e];omega
theorem yA{S:List Ag}{p:Ag}(h:H3 (put ltP p S)):VS (wOf (put ltP p S)) p=(wOf S,true):=by
 obtain⟨h1,h2,h3⟩:=Ui h;have hp:=(JX h1).1.1;obtain⟨k,hk,e⟩:=VJ hp;obtain⟨f1,f2⟩:=mU h hk e;have hne:∀x∈S.filter (CB k),isP p x=false:=fun x hx=>h3 x (List.mem_filter.1 hx).1
 unfold VS;rw [if_pos ⟨B1.2 (P1 h),hp⟩,e,Int.toNat_natCast,fB _ hk,f1,IN (Yh.2 rfl) hne,Zq hk (fun i hi hn=>(f2 i hi hn).symm)];have:(put ltP p (S.filter (CB k))).any (isP p)=true:=List.any_eq_true.2 ⟨p,Lw.2 (.inl rfl),Yh.2 rfl⟩;rw [this]
theorem yB{S:List Ag}{p:Ag}(h:H3 (put ltP p S)):LQ (wOf S) p=(wOf (put ltP p S),true):=by
 obtain⟨h1,h2,h3⟩:=Ui h;have hp:=(JX h1).1.1;obtain⟨k,hk,e⟩:=VJ hp;obtain⟨f1,f2⟩:=mU h hk e;have hw:P4 (wOf S) p=wOf (put ltP p S):=by
  unfold P4;rw [e,Int.toNat_natCast,fB _ hk,<-f1,Zq hk f2]
 unfold LQ;rw [hw,if_pos ⟨B1.2 (P1 h2),h1,B1.2 (P1 h)⟩]
section
variable{p:AH}{ps:List AH}(i:Int)
theorem Dy(h:1<=p.AY/\p.AY<=6):FH (p::ps) i=(if p.Ay=i then p.AY else 0)+FH ps i:=by
 rw [NI];unfold XU;have:inB p.AY 1 6=true:=BH.2 h;simp [this]
theorem Ce:Bk (p::ps) i=(if p.AK=i then 1 else 0)+Bk ps i:=by
 rw [QA];unfold wF;simp
theorem Gl(hs:p.State≠2):FM (p::ps) i=FM ps i:=by
 rw [G4];unfold OA;simp [hs]
theorem PU(hs:p.State=2)(h:1<=p.AY/\p.AY<=6):FM (p::ps) i=(if p.AK=i then p.AY else 0)+FM ps i:=by
 rw [G4];unfold OA;have:inB p.AY 1 6=true:=BH.2 h;simp [this,hs]
theorem Gn(hs:p.State≠2):Dc (p::ps) i=Dc ps i:=by
 rw [M5];unfold MK;simp [hs]
theorem Lr(hs:p.State=2):Dc (p::ps) i=if p.AK=i then put ltP ⟨p.Bh,p.Id⟩ (Dc ps i) else Dc ps i:=by
 rw [M5];unfold MK;by_cases h:p.AK=i <;> simp [hs,h]
theorem NA(r:AN)(now:Int)(hs:p.State≠1):Bn r (p::ps) i now=Bn r ps i now:=by
 rw [LF,su hs]
theorem Eo{r:AN}{now:Int}(hp:Bc r p now=true)(hs:p.State=1):Bn r (p::ps) i now=if p.AK=i then put ltE ⟨D4 r p now,p.AQ,p.Id,p.AY⟩ (Bn r ps i now) else Bn r ps i now:=by
 rw [LF,nW hp hs];by_cases h:p.AK=i <;> simp [h]
end
section
variable{r:AN}{now Dt:Int}{ps:List AH}
theorem Iv.sub{qs:List AH}(h:Iv r now Dt ps)(hs:qs.Sublist ps):Iv r now Dt qs:=
 ⟨Nat.le_trans hs.length_le h.few,fun p hp=>h.par p (hs.subset hp),h.ids.sublist hs,h.turns.sublist hs⟩
theorem Iv.set(h:Iv r now Dt ps){k:Nat}(hk:k<ps.length){p:AH}(h1:p.Id=ps[k].Id)(h2:p.AQ=ps[k].AQ)(h3:p.Since=ps[k].Since)(h4:Bc r p now=true):Iv r now Dt (ps.set k p):=by
 have hT:=(h.par _ (List.getElem_mem hk)).2;have hg:∀i (hi:i<(ps.set k p).length),(ps.set k p)[i].Id=(ps[i]'(by simpa using hi)).Id/\(ps.set k p)[i].AQ=(ps[i]'(by simpa using hi)).AQ/\(ps.set k p)[i].Since=(ps[i]'(by simpa using hi)).Since:=by
  intro i hi;rw [List.getElem_set];split
  .rename_i e;subst e;exact⟨h1,h2,h3⟩
  .exact⟨rfl,rfl,rfl⟩
 refine⟨by simpa using h.few,?_,?_,?_⟩
 .intro q hq;rcases List.mem_or_eq_of_mem_set hq with hq|rfl
  .exact h.par q hq
  .exact⟨h4,by rw [h2];exact hT⟩
 .rw [List.pairwise_iff_getElem];intro i j hi hj hij;rw [(hg i hi).1,(hg j hj).1];exact List.pairwise_iff_getElem.1 h.ids i j _ _ hij
 .rw [List.pairwise_iff_getElem];intro i j hi hj hij;have:=List.pairwise_iff_getElem.1 h.turns i j (by simpa using hi) (by simpa using hj) hij;unfold ED at this ⊢;rw [(hg i hi).2.1,(hg i hi).2.2,(hg j hj).2.1,(hg j hj).2.2];exact this
end
theorem zT{h:AA}{id:Int}(h0:0<=CW h id):∃k,∃hk:k<h.AB.length,CW h id=(k:Int)/\par h id=h.AB[k]/\(par h id).Id=id/\h.AB.eraseP (fun x=>x.Id==id)=h.AB.take k++h.AB.drop (k+1):=by
 unfold CW at h0;rcases GS (fun x:AH=>x.Id==id) h.AB 0 with ⟨h1,_⟩|⟨k,hk,h1,h2,_,h3⟩
 .omega
 .have he:par h id=h.AB[k]:=by
   unfold par CW;rw [h1,Nat.zero_add,Int.toNat_natCast,List.getD_eq_getElem?_getD,List.getElem?_eq_getElem hk];rfl
  exact⟨k,hk,by unfold CW;rw [h1,Nat.zero_add],he,by rw [he];simpa using h3,h2⟩
end Lv.P
