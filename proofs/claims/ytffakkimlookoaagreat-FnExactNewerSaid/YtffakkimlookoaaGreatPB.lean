/-
  Plain laws: wheels are right for both alike, and their pins in order.
-/
import Derived.Test.YtffakkimlookoaaGreatPA
set_option linter.unusedVariables false
set_option linter.unusedSimpArgs false
namespace Lv.P
open Go (IntKind BinOp UnOp)
def Rj(p:AK):Bool:=inB p.At 1 1000008&&inB p.Id 1 999
structure JE(w:AP):Prop where
 nine:w.AJ.length=9
 few:w.AJ.flatten.length<=10
 pins:∀p∈w.AJ.flatten,Rj p=true
 ids:w.AJ.flatten.Pairwise fun a b=>a.Id≠b.Id
 at_:∀i (h:i<w.AJ.length) k (hk:k<w.AJ[i].length),w.AJ[i][k].At.tmod 9=(i:Int)
 srt:∀i (h:i<w.AJ.length) k (hk:k+1<w.AJ[i].length),ltP w.AJ[i][k] w.AJ[i][k+1]=true
noncomputable def EF(w:AP):Bool:=@decide (JE w) (Classical.propDecidable _)
theorem Co{w:AP}:EF w=true↔JE w:=by unfold EF;exact @decide_eq_true_iff _ (Classical.propDecidable _)
def BW(w:AP):Prop:=w.AJ.length<=1048576/\w.AJ.flatten.length<=1048576
theorem Pu{α:Type}{l:List (List α)}{i:Nat}(h:i<l.length):(l.take i).flatten.length+l[i].length<=l.flatten.length:=by
 have:l.flatten=(l.take i).flatten++(l[i]++(l.drop (i+1)).flatten):=by
  rw [<-List.flatten_cons,<-List.flatten_append,<-CH h,List.take_append_drop]
 rw [this];simp
theorem Fu{l:List (List AK)}{i:Nat}(h:i<l.length):l[i].length<=l.flatten.length:=by have:=Pu h;omega
theorem XE{w:AP}(hw:BW w):rH w=some w.AJ.flatten:=by
 have hlim:lim=268435456:=rfl;have h1:=hw.1;have h2:=hw.2;unfold rH;refine(Bz (n:=w.AJ.length) (fun i (v:List AK)=>(v,(i:Int))) (fun i v=>v=(w.AJ.take i).flatten) (fun i v=>some w.AJ.flatten) (by omega) ?_ (by simp));intro L i v hv hi ih;unfold m3 m0;dsimp only;rcases Nat.lt_or_ge i w.AJ.length with h|h
 .have:=Pu h;rw [AX h,Af,Ac h,AA,BE (by rw [hv];omega),Av h (by omega)];refine ih _ ?_ h;rw [hv,List.take_add_one,List.getElem?_eq_getElem h,List.flatten_append];simp
 .obtain rfl:i=w.AJ.length:=by omega
  rw [AY,Ag,AE,hv,List.take_length]
def SP(s:List AK)(i:Nat)(k:Nat):Bool:=EH s k fun p=>(p.At.tmod 9==(i:Int))&&(if 0<k then EH s (k-1) (fun d=>ltP d p) else true)
def Yi(l:List AK)(i:Nat):Bool:=EH l i fun p=>Rj p&&Dm (fun k=>EH l k fun q=>!(q.Id==p.Id)) 0 i
theorem Ga{w:AP}(hw:BW w):jC w=some (EF w):=by
 have h1:=hw.1;have h2:=hw.2;have hj6:Sm w ()=some (Dm (fun i=>EH w.AJ i fun s=>Dm (SP s i) 0 s.length) 0 w.AJ.length):=by
  unfold Sm;rw [EP (n:=w.AJ.length) (E:=some true) (fun i=>EH w.AJ i fun s=>Dm (SP s i) 0 s.length) (by omega) ?_ ?_,BK,Bool.and_true]
  .intro L i h;have hs:=Fu h;rw [Ay h];unfold Zp;rw [AX h,Af];refine EP (n:=w.AJ[i].length) (E:=L ((i+1:Nat):Int)) (SP w.AJ[i] i) (by omega) ?_ ?_
   .intro L' k hk;have hw':=Av hk (show w.AJ[i].length<2 ^ 63 by omega);unfold SP;rw [Ay hk];unfold Zq Sn;rw [Ac h,AA,AX hk,Af,MN];simp only [AA,Ac hk,AE,hw',Af,Ag];by_cases h0:0<k
    .rw [decide_eq_true h0,Af,if_pos h0,EM k h0 (by omega),Ac (show k-1<w.AJ[i].length by omega),AA,SO,AA,Ay (show k-1<w.AJ[i].length by omega),bne];cases w.AJ[i][k].At.tmod 9==(i:Int) <;> cases ltP w.AJ[i][k-1] w.AJ[i][k] <;> rfl
    .rw [decide_eq_false h0,Ag,if_neg h0,bne];cases w.AJ[i][k].At.tmod 9==(i:Int) <;> rfl
   .intro L';unfold Zq fW;rw [Ac h,AA,AY,Ag,AE,Av h (by omega)]
  .intro L;unfold Zp fY;rw [AY,Ag,AE]
 have hj1:∀b,Sk w w.AJ.flatten b=some (!b&&(Dm (Yi w.AJ.flatten) 0 w.AJ.flatten.length&&Dm (fun i=>EH w.AJ i fun s=>Dm (SP s i) 0 s.length) 0 w.AJ.length)):=by
  intro b;unfold Sk;rw [EP (n:=w.AJ.flatten.length) (E:=Sm w ()) (Yi w.AJ.flatten) (by omega) ?_ ?_,hj6,BK,EO]
  .intro L i h;unfold Yi;rw [Ay h];have hj3:∀b,Sl w.AJ.flatten L i b=br (!b&&Dm (fun k=>EH w.AJ.flatten k fun q=>!(q.Id==w.AJ.flatten[i].Id)) 0 i) (L ((i+1:Nat):Int)) (some false):=by
    intro b;unfold Sl;rw [EP (n:=i) (E:=L ((i+1:Nat):Int)) (fun k=>EH w.AJ.flatten k fun q=>!(q.Id==w.AJ.flatten[i].Id)) (by omega) ?_ ?_]
    .cases b <;> rfl
    .intro L' k hk;rw [Ay (show k<w.AJ.flatten.length by omega)];unfold Zo;rw [AX hk,Af];simp only [Ac h,Ac (show k<w.AJ.flatten.length by omega),AA,Av hk (show i<2 ^ 63 by omega)];cases w.AJ.flatten[k].Id==w.AJ.flatten[i].Id <;> rfl
    .intro L';unfold Zo m4;rw [AY,Ag,AE,Av h (by omega)]
   unfold Zn Rj;rw [AX h,Af];simp only [Ac h,AA,FV,Ae,AE,hj3];generalize Dm (fun k=>EH w.AJ.flatten k fun q=>!(q.Id==w.AJ.flatten[i].Id)) 0 i=X;cases inB w.AJ.flatten[i].At 1 1000008 <;> cases inB w.AJ.flatten[i].Id 1 999 <;> rfl
  .intro L;unfold Zn;rw [AY,Ag,AE]
 unfold jC;rw [XE hw,AA,AE,AE,hj1,hj1,Bool.not_true,Bool.false_and,bne,Ae,BK];congr 1;rw [Bool.eq_iff_iff,Co];simp only [Bool.and_eq_true,beq_iff_eq,Bool.not_eq_true',decide_eq_false_iff_not,H5];constructor
 .rintro⟨a1,a2,a3,a4⟩;refine⟨by omega,by omega,?_,?_,?_,?_⟩
  .intro p hp;obtain⟨k,hk,rfl⟩:=List.getElem_of_mem hp;have:=a3 k hk;unfold Yi at this;rw [Ay hk,Bool.and_eq_true] at this;exact this.1
  .rw [List.pairwise_iff_getElem];intro i j hi hj hij;have:=a3 j hj;unfold Yi at this;rw [Ay hj,Bool.and_eq_true,H5] at this;have:=this.2 i hij;rw [Ay hi] at this;simpa using this
  .intro i h k hk;have:=a4 i h;rw [Ay h,H5] at this;have:=this k hk;unfold SP at this;rw [Ay hk,Bool.and_eq_true,beq_iff_eq] at this;exact this.1
  .intro i h k hk;have:=a4 i h;rw [Ay h,H5] at this;have:=this (k+1) hk;unfold SP at this;rw [Ay hk,Bool.and_eq_true,if_pos (by omega),Nat.add_sub_cancel,Ay (by omega)] at this;exact this.2
 .rintro⟨a1,a2,a3,a4,a5,a6⟩;refine⟨by omega,by omega,?_,?_⟩
  .intro k hk;unfold Yi;rw [Ay hk,Bool.and_eq_true,H5];refine⟨a3 _ (List.getElem_mem _),fun j hj=>?_⟩;rw [Ay (by omega)];rw [List.pairwise_iff_getElem] at a4;have:=a4 j k (by omega) hk hj;simpa using this
  .intro i h;rw [Ay h,H5];intro k hk;unfold SP;rw [Ay hk,Bool.and_eq_true,beq_iff_eq];refine⟨a5 i h k hk,?_⟩;split
   .rename_i h0;obtain⟨k,rfl⟩:∃j,k=j+1:=⟨k-1,by omega⟩;rw [Nat.add_sub_cancel,Ay (by omega)];exact a6 i h k hk
   .rfl
def Hg(m:List (Int×Int))(p:AK):List (Int×Int):=ED m p.Id (w64 (GC m p.Id+1))
theorem s4:∀{m:List (Int×Int)} {n v:Int},n∈m.map (·.1)->(ED m n v).map (·.1)=m.map (·.1)
 | [],n,v,h=>by simp at h
 |(k,w)::m,n,v,h=>by
  unfold ED;by_cases e:n=k
  .rw [if_pos e];rfl
  .rw [if_neg e];rw [List.map_cons,List.mem_cons] at h;rw [List.map_cons,s4 (h.resolve_left e)];rfl
theorem nx:∀{m:List (Int×Int)} {n v:Int},n∉m.map (·.1)->(ED m n v).map (·.1)=m.map (·.1)++[n]
 | [],n,v,h=>rfl
 |(k,w)::m,n,v,h=>by
  unfold ED;rw [List.map_cons,List.mem_cons,not_or] at h;rw [if_neg h.1,List.map_cons,nx h.2];rfl
theorem pg:∀(l:List AK) (m:List (Int×Int)),(l.foldl Hg m).length<=m.length+l.length/\((l.foldl Hg m).length=m.length+l.length↔(∀p∈l,p.Id∉m.map (·.1))/\l.Pairwise fun a b=>a.Id≠b.Id)
 | [],m=>by simp
 |p::l,m=>by
  rw [List.foldl_cons];have ih:=pg l (Hg m p);by_cases h:p.Id∈m.map (·.1)
  .have e:(Hg m p).map (·.1)=m.map (·.1):=s4 h;have el:(Hg m p).length=m.length:=by simpa using congrArg List.length e
   rw [el] at ih;refine⟨by rw [List.length_cons];omega,?_⟩;constructor
   .intro g;rw [List.length_cons] at g;omega
   .intro g;exact absurd h (g.1 p List.mem_cons_self)
  .have e:(Hg m p).map (·.1)=m.map (·.1)++[p.Id]:=nx h;have el:(Hg m p).length=m.length+1:=by simpa using congrArg List.length e
   rw [el,e] at ih;rw [List.length_cons,show m.length+(l.length+1)=m.length+1+l.length by omega,ih.2,List.pairwise_cons];refine⟨ih.1,?_⟩;constructor
   .rintro⟨g1,g2⟩;refine⟨?_,?_,g2⟩
    .intro q hq;rcases List.mem_cons.1 hq with rfl|hq
     .exact h
     .intro hm;exact g1 q hq (List.mem_append_left _ hm)
    .intro q hq hm;exact g1 q hq (List.mem_append_right _ (by rw [hm];exact List.mem_singleton.2 rfl))
   .rintro⟨g1,g2,g3⟩;refine⟨?_,g3⟩;intro q hq hm;rcases List.mem_append.1 hm with hm|hm
    .exact g1 q (List.mem_cons_of_mem _ hq) hm
    .exact g2 q hq (List.mem_singleton.1 hm).symm
theorem VS(p:AK):cr p=some (Rj p):=by
 unfold cr Ta Rj;simp only [Em,AA,AE,BK]
def Ob(s:List AK)(i:Nat)(k:Nat):Bool:=EH s k fun p=>Rj p&&((p.At.tmod 9==(i:Int))&&(if 0<k then EH s (k-1) (fun d=>!(ltP p d)) else true))
theorem Yk(p:Nat->Bool){i n:Nat}(h:i<n):Dm p i (n-i)=(p i&&Dm p (i+1) (n-(i+1))):=by rw [show n-i=(n-(i+1))+1 by omega];rfl
theorem kR{s:List AK}(hs:s.length<=1048576){L:List (Int×Int)×Int×Int->Option Bool}{i:Nat}(hi:i<9){m:List (Int×Int)}{n:Nat}(hn:n<=2 ^ 50) :
 AR (Td L i s) big (m,(n:Int),0)=br (Dm (Ob s i) 0 s.length) (L (s.foldl Hg m,((n+s.length:Nat):Int),((i+1:Nat):Int))) (some false):=by
 refine(Bz (n:=s.length) (fun k (v:List (Int×Int)×Nat)=>(v.1,(v.2:Int),(k:Int))) (fun k v=>v.2=n+k) (fun k v=>br (Dm (Ob s i) k (s.length-k)) (L ((s.drop k).foldl Hg v.1,((n+s.length:Nat):Int),((i+1:Nat):Int))) (some false)) (by omega) ?_ (v:=(m,n)) rfl);rintro L' k ⟨m,n'⟩ hv hk ih;dsimp only at hv ih ⊢;unfold Td Kv;dsimp only;rcases Nat.lt_or_ge k s.length with h|h
 .have hih:=ih (Hg m s[k],n'+1) (by dsimp only;omega) h;dsimp only at hih;have ew:w64 ((n':Int)+1)=((n'+1:Nat):Int):=by rw [AM (by omega) (by omega)];rfl
  rw [AX h,Af,Ac h,AA,VS,AA,Ae,Yk _ h,CH h,List.foldl_cons,MN];simp only [AE,Af,Ag,Av h (show s.length<2 ^ 63 by omega),ew];have ed:ED m s[k].Id (w64 (GC m s[k].Id+1))=Hg m s[k]:=rfl;rw [ed,hih];unfold Ob;rw [Ay h];generalize Dm _ (k+1) (s.length-(k+1))=X;generalize L _=Z;by_cases h0:0<k
  .obtain⟨c,e1,e2,e3⟩:=Eh s[k-1] s[k];rw [decide_eq_true h0,Af,if_pos h0,EM k h0 (by omega),Ac (show k-1<s.length by omega),AA,e1,AA,e3,Ay (show k-1<s.length by omega),bne];cases Rj s[k] <;> cases s[k].At.tmod 9==(i:Int) <;> cases ltP s[k] s[k-1] <;> rfl
  .rw [decide_eq_false h0,Ag,if_neg h0,bne];cases Rj s[k] <;> cases s[k].At.tmod 9==(i:Int) <;> rfl
 .obtain rfl:k=s.length:=by omega
  unfold cu;dsimp only;rw [AY,Ag,AE,Av (i:=i) (n:=9) hi (by omega),Nat.sub_self,List.drop_length,hv];rfl
theorem GU{w:AP}(hw:BW w):O9 w=some (EF w):=by
 have h1:=hw.1;have h2:=hw.2;unfold O9;rw [bne,Ae];by_cases h9:w.AJ.length=9
 .have e9:((w.AJ.length:Int)==9)=true:=by rw [beq_iff_eq];omega
  rw [e9,Af];have:=(Bz (F:=Tc w) (n:=w.AJ.length) (fun k (v:List (Int×Int)×Nat)=>(v.1,(v.2:Int),(k:Int))) (fun k v=>v.2=(w.AJ.take k).flatten.length) (fun k v=>br (Dm (fun i=>EH w.AJ i fun s=>Dm (Ob s i) 0 s.length) k (w.AJ.length-k)) (PB ((w.AJ.drop k).flatten.foldl Hg v.1,((v.2+(w.AJ.drop k).flatten.length:Nat):Int))) (some false)) (by omega) ?_ (v:=([],0)) (by simp))
  .refine Eq.trans this ?_;unfold PB Tb;simp only [List.drop_zero,Nat.zero_add,AE,BK,Nat.sub_zero];congr 1;have hc:=pg w.AJ.flatten [];rw [List.length_nil,Nat.zero_add] at hc;rw [Bool.eq_iff_iff,Co];simp only [Bool.and_eq_true,beq_iff_eq,decide_eq_true_iff,H5];have hm:((w.AJ.flatten.foldl Hg []).length:Int)=(w.AJ.flatten.length:Int)↔w.AJ.flatten.Pairwise fun a b=>a.Id≠b.Id:=by
    rw [Int.ofNat_inj,hc.2];simp
   rw [hm];constructor
   .rintro⟨a1,a2,a3⟩;have hk:∀i (h:i<w.AJ.length) k (hk:k<w.AJ[i].length),Rj w.AJ[i][k]=true/\w.AJ[i][k].At.tmod 9=(i:Int)/\(if 0<k then EH w.AJ[i] (k-1) (fun d=>!(ltP w.AJ[i][k] d)) else true)=true:=by
     intro i h k hk;have:=a1 i h;rw [Ay h,H5] at this;have:=this k hk;unfold Ob at this;rw [Ay hk,Bool.and_eq_true,Bool.and_eq_true,beq_iff_eq] at this;exact this
    refine⟨h9,by omega,?_,a3,fun i h k hk'=>(hk i h k hk').2.1,?_⟩
    .intro p hp;obtain⟨s,hs,hp⟩:=List.mem_flatten.1 hp;obtain⟨i,hi,rfl⟩:=List.getElem_of_mem hs;obtain⟨k,hk',rfl⟩:=List.getElem_of_mem hp;exact(hk i hi k hk').1
    .intro i h k hk';have:=(hk i h (k+1) hk').2.2;rw [if_pos (by omega),Nat.add_sub_cancel,Ay (by omega),Bool.not_eq_true',Vb] at this;have hd:=(List.pairwise_flatten.1 a3).1 _ (List.getElem_mem h);rw [List.pairwise_iff_getElem] at hd;have:=hd k (k+1) (by omega) hk' (by omega);rw [KB];omega
   .rintro⟨a1,a2,a3,a4,a5,a6⟩;refine⟨?_,by omega,a4⟩;intro i h;rw [Ay h,H5];intro k hk;unfold Ob;rw [Ay hk,Bool.and_eq_true,Bool.and_eq_true,beq_iff_eq];refine⟨a3 _ (List.mem_flatten.2 ⟨_,List.getElem_mem h,List.getElem_mem hk⟩),a5 i h k hk,?_⟩;split
    .obtain⟨k,rfl⟩:∃j,k=j+1:=⟨k-1,by omega⟩;rw [Nat.add_sub_cancel,Ay (by omega),Bool.not_eq_true'];exact Cx.ij _ _ (a6 i h k hk)
    .rfl
  .rintro L k ⟨m,n⟩ hv hk ih;dsimp only at hv ih ⊢;unfold Tc;dsimp only;rcases Nat.lt_or_ge k w.AJ.length with h|h
   .have hf:=Pu h;rw [AX h,Af,Ac h,AA,kR (by omega) (by omega) (by omega),Yk _ h,Ay h];have ef:(w.AJ.take (k+1)).flatten=(w.AJ.take k).flatten++w.AJ[k]:=by rw [List.take_add_one,List.getElem?_eq_getElem h,List.flatten_append];simp
    have:=ih (w.AJ[k].foldl Hg m,n+w.AJ[k].length) (by dsimp only;rw [ef,List.length_append,hv]) h;dsimp only at this;rw [this,CH h,List.flatten_cons,List.foldl_append,List.length_append,Nat.add_assoc];generalize Dm _ (k+1) _=X;generalize PB _=Z;cases Dm (Ob w.AJ[k] k) 0 w.AJ[k].length <;> rfl
   .obtain rfl:k=w.AJ.length:=by omega
    rw [AY,Ag,AE,Nat.sub_self,List.drop_length];rfl
 .have e9:((w.AJ.length:Int)==9)=false:=by rw [beq_eq_false_iff_ne];omega
  rw [e9,Ag];congr 1;have:¬(EF w=true):=by rw [Co];exact fun h=>h9 h.nine
  rw [Bool.not_eq_true] at this;exact this.symm
noncomputable def HO(w:AP):List AK:=if EF w=true then BH ltP w.AJ.flatten else []
theorem iI{w:AP}(hw:BW w):uG w=some (HO w):=by
 have hlim:lim=268435456:=rfl;have h2:=hw.2;unfold uG HO;rw [Ga hw,AA,Ae,XE hw,AA,Fz];split
 .rw [K6 (l:=w.AJ.flatten) (fun v p=>put ltP p v) (fun i v=>v.length<=i) some (by omega) ?_ ?_ ?_ (by simp),<-RT Cx nT]
  .intro L i h v hv;unfold ZR;dsimp only;rw [AX h,Af,Ac h,AA,AA,Oa (by omega),AA]
  .intro i h v hv;rw [Dg];omega
  .intro L v hv;unfold ZR lB;dsimp only;rw [AY,Ag,AE]
 .rfl
theorem fz{w:AP}(hw:BW w):lM w=some (HO w):=by
 have hlim:lim=268435456:=rfl;have h1:=hw.1;have h2:=hw.2;unfold lM HO;rw [GU hw,AA,Ae,Fz];split
 .rename_i hk;have hk:=Co.1 hk;refine(Bz (n:=w.AJ.length) (fun i (v:List AK)=>(v,(i:Int))) (fun i v=>v=(w.AJ.take i).flatten) (fun i v=>some (BH ltP w.AJ.flatten)) (by omega) ?_ (by simp));intro L i v hv hi ih;unfold ch cg;dsimp only;rcases Nat.lt_or_ge i w.AJ.length with h|h
  .have:=Pu h;rw [AX h,Af,Ac h,AA,BE (by rw [hv];omega),Av h (by omega)];refine ih _ ?_ h;rw [hv,List.take_add_one,List.getElem?_eq_getElem h,List.flatten_append];simp
  .obtain rfl:i=w.AJ.length:=by omega
   have:=hk.few;rw [AY,Ag,AE,hv,List.take_length,xg (by omega),AA]
 .rfl
end Lv.P
namespace Lv.P
open Go (IntKind BinOp UnOp)
def Di(c:AU):Prop:=c.Row.length<=1048576/\BW c.DK
structure Ba(h:AH):Prop where
 HV:h.AI.AN.length<=1048576
 EA:h.AF.length<=1048576
 SS:h.AW.length<=1048576
 TG:∀c∈h.AW,Di c
 todo:h.BA.length<=1048576
 jT:h.BO.length<=1048576
noncomputable def Qw(c:AU):Bool:=MR c.AN&&(Ww c.Row&&EF c.DK)
theorem bT{c:AU}(hc:Di c):uP c=some (Qw c):=by
 have:=hc.1;unfold uP So Qw;simp only [Xb,bY c.Row (by omega),Ga hc.2,AA,AE,BK]
theorem Z7{c:AU}(hc:Di c):lT c=some (Qw c):=by
 have:=hc.1;unfold lT PC Qw;simp only [XT,aB c.Row (by omega),GU hc.2,AA,AE,BK]
theorem Ws{w:AP}(hw:BW w):(HO w).length<=1048576:=by
 unfold HO;split
 .rw [Gi];exact hw.2
 .simp
noncomputable def GP(r:AQ)(c:AU)(l:List AG)(k now:Int):Bool:=
 Qw c&&(D6 eqE c.Row (IK r l k now)&&(D6 eqP (HO c.DK) (Lh l k)&&((c.AN.Ep==QD l k)&&(c.AN.Ki==Y1 l k))))
theorem iF{r:AQ}(hr:r.AN.length<2 ^ 62){c:AU}(hc:Di c){l:List AG}(hl:l.length<=1048576)(k now:Int):uI r c l k now=some (GP r c l k now):=by
 have h1:=hc.1;have h2:=Ws hc.2;unfold uI L0 GP;simp only [bT hc,Qi hr hl,ba (show c.Row.length<2 ^ 62 by omega),iI hc.2,SM hl,Xc (show (HO c.DK).length<2 ^ 62 by omega),SL (show l.length<2 ^ 58 by omega),SN (show l.length<2 ^ 58 by omega),AA,AE,BK]
theorem ft{r:AQ}(hr:r.AN.length<2 ^ 62){c:AU}(hc:Di c){l:List AG}(hl:l.length<=1048576){k:Int}(hk:EU l k<=19)(now:Int):ln r c l k now=some (GP r c l k now):=by
 have h1:=hc.1;have h2:=Ws hc.2;unfold ln Ig GP;simp only [Z7 hc,QH hr hl hk,fv (show c.Row.length<2 ^ 62 by omega),fz hc.2,SC hl hk,fx (show (HO c.DK).length<2 ^ 62 by omega),SB (show l.length<2 ^ 58 by omega),SD (show l.length<2 ^ 58 by omega),AA,AE,BK]
def JH(q p:AG):Bool:=(q.Ai==p.Ai)||((decide (q.Ai<p.Ai)&&decide (p.Since<q.Since))||(decide (p.Ai<q.Ai)&&decide (q.Since<p.Since)))
def Yh(h:AH)(i:Nat):Bool:=
 EH h.AF i fun p=>Ed h.AI p h.Now&&(!(decide (p.Ai>=h.Ai))&&((if 0<i then EH h.AF (i-1) (fun q=>!(decide (q.Id>=p.Id))) else true)&&Dm (fun k=>EH h.AF k fun q=>!(JH q p)) 0 i))
def HN(h:AH):Bool:=Dm (Yh h) 0 h.AF.length
theorem SV{h:AH}(hh:Ba h):uK h=some (HN h):=by
 have h1:=hh.HV;have h2:=hh.EA;unfold uK HN;rw [EP (n:=h.AF.length) (E:=some true) (Yh h) (by omega) ?_ ?_,BK,Bool.and_true]
 .intro L i hi;unfold Yh;rw [Ay hi];have hj2:∀b,ML h L i h.AF[i] b=br (!b&&Dm (fun k=>EH h.AF k fun q=>!(JH q h.AF[i])) 0 i) (L ((i+1:Nat):Int)) (some false):=by
   intro b;unfold ML;rw [EP (n:=i) (E:=L ((i+1:Nat):Int)) (fun k=>EH h.AF k fun q=>!(JH q h.AF[i])) (by omega) ?_ ?_]
   .cases b <;> rfl
   .intro L' k hk;have hkl:k<h.AF.length:=by omega
    have hj4:∀b,Hm L' k b=br (!b) (L' ((k+1:Nat):Int)) (some false):=by intro b;unfold Hm;rw [Av hk (by omega)];cases b <;> rfl
    rw [Ay hkl];unfold Zh JH;rw [AX hk,Af,Ac hkl,AA];simp only [AE,hj4,gt_iff_lt];cases h.AF[k].Ai==h.AF[i].Ai <;> cases decide (h.AF[k].Ai<h.AF[i].Ai) <;> cases decide (h.AF[i].Since<h.AF[k].Since) <;> cases decide (h.AF[i].Ai<h.AF[k].Ai) <;> cases decide (h.AF[k].Since<h.AF[i].Since) <;> rfl
   .intro L';unfold Zh mo;rw [AY,Ag,AE,Av hi (by omega)]
  unfold Zg;rw [AX hi,Af,Ac hi,AA,KM (by omega),AA,Ae,MN];simp only [AE,hj2];generalize Dm (fun k=>EH h.AF k fun q=>!(JH q h.AF[i])) 0 i=X;by_cases h0:0<i
  .rw [decide_eq_true h0,Af,if_pos h0,EM i h0 (by omega),Ac (show i-1<h.AF.length by omega),AA,Ay (show i-1<h.AF.length by omega)];cases Ed h.AI h.AF[i] h.Now <;> cases decide (h.AF[i].Ai>=h.Ai) <;> cases decide (h.AF[i-1].Id>=h.AF[i].Id) <;> rfl
  .rw [decide_eq_false h0,Ag,if_neg h0];cases Ed h.AI h.AF[i] h.Now <;> cases decide (h.AF[i].Ai>=h.Ai) <;> rfl
 .intro L;unfold Zg mq;rw [AY,Ag,AE]
theorem kN{l:List Int}(hl:l.length<2 ^ 62)(x:Int):uL l x=some (l.any (fun y=>y==x)):=by
 unfold uL;refine(Bz (n:=l.length) (fun i (_:Unit)=>(i:Int)) (fun _ _=>True) (fun i _=>some ((l.drop i).any (fun y=>y==x))) (by omega) ?_ (v:=()) trivial);intro L i _ _ hi ih;unfold mu mr;rcases Nat.lt_or_ge i l.length with h|h
 .rw [AX h,Af,Ac h,AA,Av h (by omega),CH h,List.any_cons];cases l[i]==x with
  |true=>rfl
  |false=>rw [Ag,ih () trivial h];rfl
 .obtain rfl:i=l.length:=by omega
  rw [AY,Ag,AE,List.drop_length];rfl
theorem XS{l:List Int}(hl:l.length<2 ^ 62)(x:Int):lq l x=some (l.any (fun y=>y==x)):=by
 unfold lq qW;rw [ik (l:=l) (p:=fun y=>x==y) (by omega) ?_ ?_,AA]
 .congr 1;rw [Bool.eq_iff_iff,decide_eq_true_iff,List.any_eq_true];have:=cF (p:=fun y=>x==y) (l:=l) (s:=0);constructor
  .intro h;have h2:¬∀y∈l,(x==y)=false:=by rw [<-this];omega
   simp only [beq_eq_false_iff_ne] at h2;refine Classical.byContradiction fun g=>h2 fun y hy e=>g ⟨y,hy,by simp [e]⟩
  .rintro⟨y,hy,e⟩;have h2:¬atF (fun y=>x==y) l 0<0:=by
    rw [this];intro g;have:=g y hy;rw [beq_iff_eq] at e;rw [e] at this;simp at this
   omega
 .intro L i h;unfold Tz;rw [AX h,Af,Ac h,AA]
 .intro L;unfold Tz de;rw [AY,Ag,AE]
def Oe(t:List Int)(n:Int)(i:Nat):Bool:=EH t i fun k=>inB k 0 (w64 (n-1))&&!((t.take i).any fun y=>y==k)
def KY(t:List Int)(n:Int):Bool:=Dm (Oe t n) 0 t.length
def LH(t:List Int)(n:Int):Bool:=t.all fun x=>inB x (-1) (w64 (n-1))
theorem bf{h:AH}(hh:Ba h):uM h=some (KY h.BA h.AW.length&&(LH h.BO h.AW.length&&((h.BO.length:Int)==h.AI.BL))):=by
 have h1:=hh.todo;have h2:=hh.jT;have e3:Sg h ()=some (LH h.BO h.AW.length&&((h.BO.length:Int)==h.AI.BL)):=by
  unfold Sg LH;rw [kW (l:=h.BO) (fun x=>inB x (-1) (w64 ((h.AW.length:Int)-1))) (E:=some ((h.BO.length:Int)==h.AI.BL)) (by omega) ?_ ?_,BK]
  .intro L i hi;unfold Zk;rw [AX hi,Af,Ac hi,AA,FV,AA,Ae]
  .intro L;unfold Zk mw;rw [AY,Ag,AE]
 unfold uM KY;rw [EP (n:=h.BA.length) (E:=Sg h ()) (Oe h.BA h.AW.length) (by omega) ?_ ?_,e3,BK]
 .intro L i hi;unfold Oe;rw [Ay hi];unfold Zj Zi;rw [AX hi,Af,Ac hi,AA,FV,AA,Ae,BE (by omega),AA,Int.toNat_natCast,kN (by rw [List.length_take];omega),AA,AE,AE,Av hi (by omega),Af];cases inB h.BA[i] 0 (w64 ((h.AW.length:Int)-1)) <;> cases (h.BA.take i).any (fun y=>y==h.BA[i]) <;> rfl
 .intro L;unfold Zj;rw [AY,Ag,AE]
noncomputable def Xs(h:AH)(i:Nat):Bool:=
 EH h.AW i fun c=>EH h.AI.AN i (fun s=>c.AN.Total==s)&&(GP h.AI c h.AF i h.Now&&!(decide (EU h.AF i>h.AI.Room)))
noncomputable def Hj(h:AH):Bool:=Dm (Xs h) 0 h.AW.length
noncomputable def DH(h:AH):Bool:=
 CP h.AI&&(inB h.Now 0 1000000&&(inB h.Ai 1 1000001&&(!(decide ((h.AF.length:Int)>40))&&(((h.AW.length:Int)==(h.AI.AN.length:Int))&&(HN h&&((KY h.BA h.AW.length&&(LH h.BO h.AW.length&&((h.BO.length:Int)==h.AI.BL)))&&Hj h))))))
theorem KL{h:AH}(hh:Ba h):oN h=some (DH h):=by
 have h1:=hh.HV;have h2:=hh.EA;have h3:=hh.SS;have ht:Hk h true=some false:=rfl;unfold oN DH;by_cases hcl:h.AW.length=h.AI.AN.length
 .have hj2:∀b,Se h b=some (!b&&Hj h):=by
   intro b;unfold Se Hj;rw [EP (n:=h.AW.length) (E:=some true) (Xs h) (by omega) ?_ ?_,BK,Bool.and_true,EO]
   .intro L i hi;have hj4:∀b,Oy L i b=br (!b) (L ((i+1:Nat):Int)) (some false):=by intro b;unfold Oy;rw [Av hi (by omega)];cases b <;> rfl
    unfold Xs;rw [Ay hi,Ay (show i<h.AI.AN.length by omega)];unfold Zd;rw [AX hi,Af,Ac hi,AA,Ac (show i<h.AI.AN.length by omega),AA,AA,iF (by omega) (hh.TG _ (List.getElem_mem hi)) h2,AA,Ae,bU (by omega),AA];simp only [AE,hj4,bne];cases h.AW[i].AN.Total==h.AI.AN[i] <;> cases GP h.AI h.AW[i] h.AF i h.Now <;> cases decide (EU h.AF i>h.AI.Room) <;> rfl
   .intro L;unfold Zd lH;rw [AY,Ag,AE]
  have hj1:∀b,Hk h b=some (!b&&(HN h&&((KY h.BA h.AW.length&&(LH h.BO h.AW.length&&((h.BO.length:Int)==h.AI.BL)))&&Hj h))):=by
   intro b;unfold Hk;simp only [SV hh,bf hh,AA,Ae,AE,hj2,Bool.not_true,Bool.false_and,Bool.not_not,BK,EO]
  simp only [FN (show h.AI.AN.length<2 ^ 62 by omega),FV,AA,Ae,AE,hj1,Bool.not_true,Bool.false_and,BK,EO,bne,Bool.not_not]
 .have e:((h.AW.length:Int)==(h.AI.AN.length:Int))=false:=by rw [beq_eq_false_iff_ne];omega
  simp only [FN (show h.AI.AN.length<2 ^ 62 by omega),FV,AA,Ae,AE,bne,e,Bool.not_false,ht,kd,Bool.false_and,Bool.and_false]
theorem FA{h:AH}(hh:Ba h):T0 h=some (DH h):=by
 have h1:=hh.HV;have h2:=hh.EA;have h3:=hh.SS;have h4:=hh.todo;have h5:=hh.jT;have ht:F4 h true=some false:=rfl;unfold T0 DH;by_cases hr:CP h.AI=false
 .rw [DV (by omega),AA,hr,Ae,Ag,AE,ht];rfl
 rw [Bool.not_eq_false] at hr;have hrm:=(BZ hr).2.2.1;by_cases hcl:h.AW.length≠h.AI.AN.length
 .have e:((h.AW.length:Int)==(h.AI.AN.length:Int))=false:=by rw [beq_eq_false_iff_ne];omega
  simp only [DV (show h.AI.AN.length<2 ^ 62 by omega),Em,AA,Ae,AE,bne,e,Bool.not_false,ht,Af,kd,Bool.false_and,Bool.and_false]
 have hcl:=Classical.not_not.1 hcl;have e13:MJ h ()=some (LH h.BO h.AW.length):=by
  unfold MJ LH;rw [kW (l:=h.BO) (fun x=>inB x (-1) (w64 ((h.AW.length:Int)-1))) (E:=some true) (by omega) ?_ ?_,BK,Bool.and_true]
  .intro L i hi;unfold RB;rw [AX hi,Af,Ac hi,AA,Em,AA,Ae,hcl]
  .intro L;unfold RB X9;rw [AY,Ag,AE]
 have e10:MI h ()=some (KY h.BA h.AW.length&&LH h.BO h.AW.length):=by
  unfold MI KY;rw [EP (n:=h.BA.length) (E:=MJ h ()) (Oe h.BA h.AW.length) (by omega) ?_ ?_,e13,BK]
  .intro L i hi;unfold Oe;rw [Ay hi];unfold RA Q9;rw [AX hi,Af,Ac hi,AA,gF,AA,Ae,BE (by omega),Int.toNat_natCast,XS (by rw [List.length_take];omega),AA,AE,AE,Av hi (by omega),Af,hcl];cases inB h.BA[i] 0 (w64 ((h.AI.AN.length:Int)-1)) <;> cases (h.BA.take i).any (fun y=>y==h.BA[i]) <;> rfl
  .intro L;unfold RA;rw [AY,Ag,AE]
 have e7:PS h ()=some (Hj h&&(KY h.BA h.AW.length&&LH h.BO h.AW.length)):=by
  unfold PS Hj;rw [EP (n:=h.AW.length) (E:=MI h ()) (Xs h) (by omega) ?_ ?_,e10,BK]
  .intro L i hi;have hj9:∀b,K0 L i b=br (!b) (L ((i+1:Nat):Int)) (some false):=by intro b;unfold K0;rw [Av hi (by omega)];cases b <;> rfl
   unfold Xs;rw [Ay hi,Ay (show i<h.AI.AN.length by omega)];unfold T3;rw [AX hi,Af,Ac hi,AA,Ac (show i<h.AI.AN.length by omega),AA,Z8 (by omega),AA];by_cases hc:EU h.AF i>h.AI.Room
   .rw [decide_eq_true hc];simp only [AE,hj9,bne,Af];cases h.AW[i].AN.Total==h.AI.AN[i] <;> cases GP h.AI h.AW[i] h.AF i h.Now <;> rfl
   .rw [decide_eq_false hc,ft (by omega) (hh.TG _ (List.getElem_mem hi)) h2 (by omega),AA];simp only [AE,hj9,bne,Ag];cases h.AW[i].AN.Total==h.AI.AN[i] <;> cases GP h.AI h.AW[i] h.AF i h.Now <;> rfl
  .intro L;unfold T3;rw [AY,Ag,AE]
 have hj1:∀b,F4 h b=some (!b&&(!(decide ((h.AF.length:Int)>40))&&(HN h&&(Hj h&&(KY h.BA h.AW.length&&LH h.BO h.AW.length))))):=by
  intro b;unfold F4 HN;rw [EP (n:=h.AF.length) (E:=PS h ()) (Yh h) (by omega) ?_ ?_,e7,BK,EO,EO]
  .intro L i hi;unfold Yh;rw [Ay hi];have hj3:∀b,Ih h L i h.AF[i] b=br (!b&&Dm (fun k=>EH h.AF k fun q=>!(JH q h.AF[i])) 0 i) (L ((i+1:Nat):Int)) (some false):=by
    intro b;unfold Ih;rw [BE (by omega),EP (n:=i) (E:=L ((i+1:Nat):Int)) (fun k=>EH h.AF k fun q=>!(JH q h.AF[i])) (by omega) ?_ ?_]
    .cases b <;> rfl
    .intro L' k hk;have hkl:k<h.AF.length:=by omega
     have hj5:∀b,F5 L' k b=br (!b) (L' ((k+1:Nat):Int)) (some false):=by intro b;unfold F5;rw [Av hk (by omega)];cases b <;> rfl
     have hlen:(h.AF.take i).length=i:=by rw [List.length_take];omega
     have hat:at? (h.AF.take i) (k:Int)=some h.AF[k]:=by rw [Ac (by omega)];simp
     rw [Ay hkl];unfold T2 JH;rw [Int.toNat_natCast,hlen,AX hk,Af,hat,AA];have eb:(h.AF[i].Ai==h.AF[k].Ai)=(h.AF[k].Ai==h.AF[i].Ai):=BEq.comm;simp only [AE,hj5,gt_iff_lt,eb];cases h.AF[k].Ai==h.AF[i].Ai <;> cases decide (h.AF[k].Ai<h.AF[i].Ai) <;> cases decide (h.AF[i].Since<h.AF[k].Since) <;> cases decide (h.AF[i].Ai<h.AF[k].Ai) <;> cases decide (h.AF[k].Since<h.AF[i].Since) <;> rfl
    .intro L';have hlen:(h.AF.take i).length=i:=by rw [List.length_take];omega
     unfold T2 dg;rw [Int.toNat_natCast,hlen,AY,Ag,AE,Av hi (by omega)]
   unfold T1;rw [AX hi,Af,Ac hi,AA,J6 (by omega),AA,Ae,MN];simp only [AE,hj3];generalize Dm (fun k=>EH h.AF k fun q=>!(JH q h.AF[i])) 0 i=X;by_cases h0:0<i
   .rw [decide_eq_true h0,Af,if_pos h0,EM i h0 (by omega),Ac (show i-1<h.AF.length by omega),AA,Ay (show i-1<h.AF.length by omega)];cases Ed h.AI h.AF[i] h.Now <;> cases decide (h.AF[i].Ai>=h.Ai) <;> cases decide (h.AF[i-1].Id>=h.AF[i].Id) <;> rfl
   .rw [decide_eq_false h0,Ag,if_neg h0];cases Ed h.AI h.AF[i] h.Now <;> cases decide (h.AF[i].Ai>=h.Ai) <;> rfl
  .intro L;unfold T1;rw [AY,Ag,AE]
 have e:((h.AW.length:Int)==(h.AI.AN.length:Int))=true:=by rw [beq_iff_eq];omega
 simp only [DV (show h.AI.AN.length<2 ^ 62 by omega),Em,AA,Ae,AE,hj1,Bool.not_true,Bool.false_and,BK,EO,bne,Bool.not_not,e,Af,Bool.not_false,Bool.true_and];congr 1;ac_rfl
structure xw(e:GO):Prop where
 vm:Ba e.A9
 log:e.DE.Log.Data.length<=1048576
 even:e.DE.IP.Data.length<=1048576
 odd:e.DE.Odd.Data.length<=1048576
 laid:e.Laid.length<=1048576
end Lv.P
namespace Lv.P
open Go (IntKind BinOp UnOp)
theorem YK{n:Nat}{F:(Int->Option Bool)->Int->Option Bool}(hl:n<2 ^ 63)(step:∀L (i:Nat),i<n->F L (i:Int)=L (w64 ((i:Int)+1)))(stop:∀L,F L (n:Int)=some true) :
 br ((n:Int) != (n:Int)) (some false) (AR F big 0)=some true:=by
 rw [Fz,if_neg (by simp)];exact tZ hl (fun L i h=>by rw [step L i h,Av h hl]) stop
theorem ne_self(a:Int):(a != a)=false:=by simp
theorem xk{n:Nat}(hn:n<9223372036854775808){d:Int}(h0:0<=d)(h1:d<=1048576) :
 br (decide (w64 (d-(n:Int))<0)) (some (-1)) (some (w64 (d-(n:Int))))=some (if d-n<0 then -1 else d-n):=by
 rw [AM (by omega) (by omega),AT];split <;> rfl
theorem xl{n:Nat}(hn:n<9223372036854775808){d:Int}(h0:0<=d)(h1:d<=1048576) :
 ∃r,br (decide (w64 (d-(n:Int))<0)) (some (-1)) (some (w64 (d-(n:Int))))=some r/\(r<0\/0<=r/\r+n=d):=by
 rw [xk hn h0 h1];refine⟨_,rfl,?_⟩;split <;> omega
theorem oX(x:AG):lz x x=some true:=by
 unfold lz;simp only [ne_self,Ag]
theorem jI(x:BX):l8 x x=some true:=by
 unfold l8;simp only [ne_self,Ag]
theorem oW(x:AD):l9 x x=some true:=by
 unfold l9;simp only [ne_self,Ag]
theorem ug(x:AK):mB x x=some true:=by
 unfold mB;simp only [ne_self,Ag]
theorem Pr{l:List Int}(hl:l.length<9223372036854775808):T5 l l=some true:=by
 unfold T5;refine YK (by omega) ?_ ?_
 .intro L i h;unfold T6;rw [AX h,Af,Ac h,AA,AA,ne_self,Ag]
 .intro L;unfold T6 dh;rw [AY,Ag,AE]
theorem jJ{l:List AG}(hl:l.length<9223372036854775808):l7 l l=some true:=by
 unfold l7;refine YK (by omega) ?_ ?_
 .intro L i h;unfold T7;rw [AX h,Af,Ac h,AA,AA,oX,AA,Ae,Af]
 .intro L;unfold T7 di;rw [AY,Ag,AE]
theorem jH{l:List AD}(hl:l.length<9223372036854775808):mA l l=some true:=by
 unfold mA;refine YK (by omega) ?_ ?_
 .intro L i h;unfold T8;rw [AX h,Af,Ac h,AA,AA,oW,AA,Ae,Af]
 .intro L;unfold T8 dj;rw [AY,Ag,AE]
theorem rR{l:List AK}(hl:l.length<9223372036854775808):mC l l=some true:=by
 unfold mC;refine YK (by omega) ?_ ?_
 .intro L i h;unfold T9;rw [AX h,Af,Ac h,AA,AA,ug,AA,Ae,Af]
 .intro L;unfold T9 dk;rw [AY,Ag,AE]
theorem oY{l:List (List AK)}(hl:l.length<9223372036854775808)(hp:∀x∈l,x.length<9223372036854775808):mD l l=some true:=by
 unfold mD;refine YK (by omega) ?_ ?_
 .intro L i h;unfold UA;rw [AX h,Af,Ac h,AA,AA,rR (hp _ (List.getElem_mem h)),AA,Ae,Af]
 .intro L;unfold UA dm;rw [AY,Ag,AE]
theorem tN{l:List Int}(hl:l.length<=1048576):jA l=some l:=by
 unfold jA;rw [BE (by unfold lim;omega),Int.toNat_natCast];refine qH (by omega) ?_ ?_
 .intro L v i hv hi;unfold Ze;dsimp only;rw [AX hi,Af,Ac hi,AA,Ac (by omega),AA,AA,Av hi (by omega),Int.toNat_natCast]
 .intro L v;unfold Ze lh;dsimp only;rw [AY,Ag,AE]
theorem sD{l:List (List AK)}{x:List AK}(h:x∈l):x.length<=l.flatten.length:=by
 obtain⟨i,hi,rfl⟩:=List.getElem_of_mem h;exact Fu hi
theorem Y2(s:Be):fN s=some s:=by
 unfold fN qX;simp only [AA]
theorem XI{a:Dw}(hl:a.Data.length<9223372036854775808){d:Int}(h0:0<=d)(h1:d<=1048576):∃r,qM a d=some r/\(r<0\/0<=r/\r+a.Data.length=d):=xl hl h0 h1
end Lv.P
