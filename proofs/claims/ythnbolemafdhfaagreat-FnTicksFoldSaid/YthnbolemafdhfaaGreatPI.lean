/-
  Plain laws: what is cut out of rows, queues and wheels; ledgers that turn.
-/
import Derived.Test.YthnbolemafdhfaaGreatKE
import Derived.Test.YthnbolemafdhfaaGreatPF
set_option linter.unusedVariables false
set_option linter.unusedSimpArgs false
set_option linter.unusedSectionVars false
namespace Lv.P
open Lv Go
theorem GS{α:Type}(p:α->Bool):∀(l:List α) (s:Nat),(atF p l s = -1/\l.eraseP p=l/\l.any p=false) \/
 ∃k,∃h:k<l.length,atF p l s=((s+k:Nat):Int)/\l.eraseP p=l.take k++l.drop (k+1)/\l.any p=true/\p l[k]=true
 | [],s=>.inl ⟨rfl,rfl,rfl⟩
 |x::l,s=>by
  by_cases h:p x=true
  .refine .inr ⟨0,by simp,by unfold atF;rw [if_pos h];rfl,by simp [h],by simp [h],by simpa using h⟩
  .have h':p x=false:=by simpa using h
   rcases GS p l (s+1) with ⟨h1,h2,h3⟩|⟨k,hk,h1,h2,h3,h4⟩
   .exact .inl ⟨by unfold atF;rw [if_neg h,h1],by simp [h',h2],by simp [h',h3]⟩
   .exact .inr ⟨k+1,by simp;omega,by unfold atF;rw [if_neg h,h1];omega,by simp [h',h2],by simp [h3],by simpa using h4⟩
theorem Ma{l:List AT}(hl:l.length<=1048576)(id:Int):SD l id=some (l.eraseP (fun x=>x.Id==id),l.any fun x=>x.Id==id):=by
 have hlim:lim=268435456:=rfl;unfold SD;rw [Jd (by omega),AD,BT];rcases GS (fun x:AT=>x.Id==id) l 0 with ⟨h1,h2,h3⟩|⟨k,hk,h1,h2,h3,_⟩
 .rw [h1,if_pos (by omega),F9 (by omega),AD,h2,h3]
 .rw [h1,Nat.zero_add,if_neg (by omega),Ai (by omega) (by omega),BP ⟨by omega,by omega⟩,BP ⟨by omega,by omega⟩,Int.toNat_natCast,F9 (by rw [List.length_take];omega),AD,
   BP (by rw [List.length_take,List.length_drop];omega),h2,h3]
  rfl
theorem ND{l:List AH}(hl:l.length<=1048576)(id:Int):Nd l id=some (atF (fun x=>x.Id==id) l 0):=by
 unfold Nd;refine fP (by omega) ?_ ?_
 .intro L i h;unfold Nf;rw [A4 h,BE,Af h,AD]
 .intro L;unfold Nf Rk;rw [A3,A9,AO]
theorem Vg{l:List AH}(hl:l.length<=1048576)(id:Int):kW l id=some (l.eraseP (fun x=>x.Id==id)):=by
 have hlim:lim=268435456:=rfl;unfold kW;rw [ND hl,AD,BT];rcases GS (fun x:AH=>x.Id==id) l 0 with ⟨h1,h2,h3⟩|⟨k,hk,h1,h2,h3,_⟩
 .rw [h1,if_pos (by omega),BP (by omega),List.nil_append,h2]
 .rw [h1,Nat.zero_add,if_neg (by omega),Ai (by omega) (by omega),BP ⟨by omega,by omega⟩,BP ⟨by omega,by omega⟩,Int.toNat_natCast,BP (by rw [List.length_take];omega),List.nil_append,
   BP (by rw [List.length_take,List.length_drop];omega),h2]
  rfl
def l8(l:Am)(n a b c d:Int):Am×Bool:=
 let l':Am:=⟨l.Total,w64 (l.Co+w64 (a*n)),w64 (l.Cp+w64 (b*n)),w64 (l.Dz+w64 (c*n)),w64 (l.EB+w64 (d*n))⟩
 if CO l=true/\inB n 0 60=true/\CO l'=true then (l',true) else (l,false)
theorem Eu(l:Am)(n a b c d:Int):Nq l n a b c d=some (l8 l n a b c d):=by
 unfold Nq R9 l8;simp only [Hw,EG,AD,AO,Bg,A7];generalize (⟨l.Total,w64 (l.Co+w64 (a*n)),w64 (l.Cp+w64 (b*n)),w64 (l.Dz+w64 (c*n)),w64 (l.EB+w64 (d*n))⟩:Am)=l';cases CO l <;> cases inB n 0 60 <;> cases CO l' <;> rfl
theorem Vi(l:Am)(n:Int):kT l n=some (l8 l n 0 0 0 1):=by unfold kT;rw [Eu,AD]
theorem Qj(l:Am)(n:Int):kX l n=some (l8 l n 0 0 0 (-1)):=by unfold kX;rw [Eu,AD]
theorem VB(l:Am)(n:Int):bR l n=some (l8 l n (-1) 1 0 0):=by unfold bR;rw [Eu,AD]
theorem U9(l:Am)(n:Int):kV l n=some (l8 l n 1 (-1) 0 0):=by unfold kV;rw [Eu,AD]
theorem VC(l:Am)(n:Int):kb l n=some (l8 l n 0 (-1) 1 0):=by unfold kb;rw [Eu,AD]
theorem VA(l:Am)(n:Int):kZ l n=some (l8 l n 1 0 (-1) 0):=by unfold kZ;rw [Eu,AD]
end Lv.P
namespace Lv.P
open Lv Go
def isP(p:Ag)(x:Ag):Bool:=x.At==p.At&&(x.Id==p.Id&&true)
noncomputable def VS(w:AU)(p:Ag):AU×Bool:=
 if FJ w=true/\1<=p.At then (⟨w.AP.set (p.At.tmod 9).toNat ((w.AP.getD (p.At.tmod 9).toNat []).eraseP (isP p))⟩,(w.AP.getD (p.At.tmod 9).toNat []).any (isP p)) else (w,false)
theorem Mb{w:AU}(hw:CD w)(p:Ag):WS w p=some (VS w p):=by
 have hlim:lim=268435456:=rfl;have hw1:=hw.1;have hw2:=hw.2;unfold WS VS;rw [LY hw,AD,FF hw,AD,Bg,AO,AO,A7];by_cases hb:FJ w=true
 .rw [if_pos hb];unfold SB;rw [BT];by_cases hp:p.At<1
  .rw [if_pos hp,if_neg (by omega)]
  .rw [if_neg hp,if_pos ⟨hb,by omega⟩];obtain⟨m,hm,hm2⟩:=VJ (n:=p.At) (by omega);have hW:=B1.1 hb;have hlen:m<w.AP.length:=by have:=hW.1;omega
   have hs:w.AP[m].length<=1048576:=Nat.le_trans (Ir hlen) hw2;rw [hm2,Int.toNat_natCast];have hg:w.AP.getD m []=w.AP[m]:=by rw [List.getD_eq_getElem?_getD,List.getElem?_eq_getElem hlen];rfl
   rw [hg];generalize hsd:w.AP[m]=s at hs ⊢;have key:=B8 (F:=Nr w p w) (n:=s.length) (fun i (_:Unit)=>(i:Int)) (fun _ _=>True)
    (fun i _=>some (if (s.drop i).any (isP p)=true then ((⟨w.AP.set m (s.take i++(s.drop i).eraseP (isP p))⟩:AU),true) else (w,false))) (by omega) ?_ (v:=()) trivial
   .have key':Ap (Nr w p w) big 0=_:=key;rw [key'];simp only [List.drop_zero,List.take_zero,List.nil_append];split
    .rename_i h;rw [h]
    .rename_i h;have h':s.any (isP p)=false:=by simpa using h
     have he:s.eraseP (isP p)=s:=List.eraseP_of_forall_not fun x hx=>by
      have:=List.any_eq_false.1 h' x hx;simpa using this
     rw [h',he,<-hsd,List.set_getElem_self]
   .intro L i _ _ hi ih;unfold Nr bN;rw [hm2,Af hlen,AD,hsd];rcases Nat.lt_or_ge i s.length with h|h
    .rw [A4 h,BE];simp only [AD,Af h,Int.toNat_natCast];rw [Ch h];show br (isP p s[i]) _ _=_;cases hq:isP p s[i] with
     |true=>
      rw [BE,Av h (by omega),BP ⟨by omega,by omega⟩,BP ⟨by omega,by omega⟩,BP (by rw [List.length_take];simp;omega),BP (by rw [List.length_append,List.length_take];simp;omega)];simp only [List.any_cons,hq,Bool.true_or,if_true,List.eraseP_cons_of_pos hq,List.nil_append,Int.toNat_natCast]
     |false=>
      rw [A9,Av h (by omega),ih () trivial h];simp only [List.any_cons,hq,Bool.false_or,List.eraseP_cons_of_neg (show ¬isP p s[i]=true by rw [hq];simp),List.take_succ_eq_append_getElem h,List.append_assoc,List.singleton_append]
    .have:i=s.length:=by omega
     subst this;rw [A3,A9,AO,List.drop_length];rfl
 .rw [if_neg hb,if_neg (by simp [hb])];rfl
end Lv.P
namespace Lv.P
open Lv Go
def CW(h:AA)(id:Int):Int:=atF (fun x:AH=>x.Id==id) h.AB 0
theorem C3{h:AA}(hh:Ar h)(id:Int):Fx h id=some (CW h id):=by
 unfold Fx;rw [ND hh.BC,AD];rfl
def aF:AZ:=⟨⟨0,0,0,0,0⟩,[],⟨[]⟩⟩
def Vc:AH:=⟨0,0,0,0,0,0,0,0,0,0⟩
theorem FU{h:AA}{k:Int}(h0:0<=k)(h1:k<h.AE.length):at? h.AE k=some (h.AE.getD k.toNat aF):=by
 obtain⟨n,rfl⟩:=Int.eq_ofNat_of_zero_le h0;rw [Af (by omega),Int.toNat_natCast,List.getD_eq_getElem?_getD,List.getElem?_eq_getElem (by omega)];rfl
theorem RR{h:AA}{k:Int}(h0:0<=k)(h1:k<h.AB.length):at? h.AB k=some (h.AB.getD k.toNat Vc):=by
 obtain⟨n,rfl⟩:=Int.eq_ofNat_of_zero_le h0;rw [Af (by omega),Int.toNat_natCast,List.getD_eq_getElem?_getD,List.getElem?_eq_getElem (by omega)];rfl
theorem Lt{h:AA}{id:Int}(h0:0<=CW h id):CW h id<h.AB.length/\(h.AB.getD (CW h id).toNat Vc).Id=id:=by
 unfold CW at h0 ⊢;rcases GS (fun x:AH=>x.Id==id) h.AB 0 with ⟨h1,_⟩|⟨k,hk,h1,_,_,h2⟩
 .omega
 .rw [h1,Nat.zero_add,Int.toNat_natCast,List.getD_eq_getElem?_getD,List.getElem?_eq_getElem hk];exact⟨by omega,by simpa using h2⟩
def E8(h:AA)(k:Int):Int:=w64 ((h.AE.getD k.toNat aF).AM.Dz-(h.AE.getD k.toNat aF).AM.EB)
theorem Mc{h:AA}{k:Int}(h0:0<=k)(h1:k<h.AE.length):bM h k=some (E8 h k):=by
 unfold bM;rw [FU h0 h1,AD,AD];rfl
def Th(h:AA)(q:Aq):Int:=
 if (h.AE.length:Int)<=q.AK\/(h.AE.length:Int)<=q.Ay\/q.Ay=q.AK then 4
 else if inB q.AY 1 h.AG.AY=false then 5
 else if h.AG.Bq<=q.Bb then 6
 else if inB q.Id 1 999=false then 7
 else if 0<=CW h q.Id then 8
 else if h.AG.Room<=Bk h.AB q.AK then 9
 else if 0<=q.Ay/\E8 h q.Ay<q.AY then 10
 else if 1000000<h.AQ then 11 else 0
theorem Zd{h:AA}(hh:Ar h)(q:Aq):kQ h q=some (Th h q):=by
 have hp:=hh.BC;have hj:∀b,((h.AE.length:Int)<=q.Ay->b=true)->KF h q b=some (if b=true then 4
  else if inB q.AY 1 h.AG.AY=false then 5
  else if h.AG.Bq<=q.Bb then 6
  else if inB q.Id 1 999=false then 7
  else if 0<=CW h q.Id then 8
  else if h.AG.Room<=Bk h.AB q.AK then 9
  else if 0<=q.Ay/\E8 h q.Ay<q.AY then 10
  else if 1000000<h.AQ then 11 else 0):=by
  intro b hb;unfold KF R5;cases b with
  |true=>rfl
  |false=>
   have hF:q.Ay<h.AE.length:=by
    by_cases hc:(h.AE.length:Int)<=q.Ay
    .cases hb hc
    .omega
   simp only [A9,EG,AD,Bg,A7,Bool.false_eq_true,if_false,ge_iff_le,gt_iff_lt,decide_eq_true_eq,C3 hh,Gb (show h.AB.length<2 ^ 58 by omega),AO];cases inB q.AY 1 h.AG.AY
   .rfl
   .by_cases h6:h.AG.Bq<=q.Bb
    .simp [h6]
    .cases h7:inB q.Id 1 999
     .simp [h6]
     .by_cases h8:0<=CW h q.Id
      .simp [h6,h8]
      .by_cases h9:h.AG.Room<=Bk h.AB q.AK
       .simp [h6,h8,h9]
       .by_cases hf:0<=q.Ay
        .rw [Mc hf hF,AD];by_cases h10:E8 h q.Ay<q.AY <;> by_cases h11:1000000<h.AQ <;> simp [h6,h8,h9,hf,h10,h11]
        .by_cases h11:1000000<h.AQ <;> simp [h6,h8,h9,hf,h11]
 unfold kQ Th;simp only [ge_iff_le,BT,AO];by_cases h1:(h.AE.length:Int)<=q.AK
 .rw [if_pos h1,if_pos (.inl h1),hj true (fun _=>rfl)];rfl
 .rw [if_neg h1];by_cases h2:(h.AE.length:Int)<=q.Ay
  .rw [if_pos h2,if_pos (.inr (.inl h2)),hj true (fun _=>rfl)];rfl
  .rw [if_neg h2,hj _ (fun h=>absurd h h2)];by_cases h3:q.Ay=q.AK
   .rw [if_pos (show (q.Ay==q.AK)=true by simpa using h3),if_pos (.inr (.inr h3))]
   .rw [if_neg (show ¬(q.Ay==q.AK)=true by simpa using h3),if_neg (show ¬((h.AE.length:Int)<=q.AK\/(h.AE.length:Int)<=q.Ay\/q.Ay=q.AK) from fun h0=>h0.elim h1 fun h0=>h0.elim h2 h3)]
def yy(p:AH)(now:Int):Bool:=p.State==2&&decide (p.Bh<=now)
theorem ui(p:AH)(now:Int):kR p now=some (yy p now):=by
 unfold kR R6 yy;rw [AO,AO,Cd]
def GR(h:AA)(id:Int):Int:=
 if CW h id<0 then 7
 else if (h.AB.getD (CW h id).toNat Vc).State≠2 then 13
 else if yy (h.AB.getD (CW h id).toNat Vc) h.Now=true then 14 else 0
theorem LN{h:AA}(hh:Ar h)(id:Int):kS h id=some (GR h id):=by
 unfold kS GR;rw [C3 hh,AD,BT];by_cases h1:CW h id<0
 .rw [if_pos h1,if_pos h1]
 .rw [if_neg h1,if_neg h1,RR (by omega) (Lt (by omega)).1,AD,AD,ui,AD,A7,A7];by_cases h2:(h.AB.getD (CW h id).toNat Vc).State=2
  .simp only [h2,bne_self_eq_false,Bool.false_eq_true,if_false,ne_eq,not_true_eq_false];split <;> rfl
  .rw [if_pos (by simpa using h2),if_pos h2]
def Du(h:AA)(q:Aq):Int:=
 if inB q.Kind 1 7=false then 2
 else if J4 q=false then 3
 else if q.Kind=1 then Th h q
 else if q.Kind=2 then if CW h q.Id<0 then 7 else 0
 else if q.Kind=3 then if (h.AE.length:Int)<=q.AK then 4 else if inB q.AY 1 60=false then 5 else if E8 h q.AK<q.AY then 12 else 0
 else if q.Kind=4\/q.Kind=5 then GR h q.Id
 else if q.Kind=6 then if 1000000<=h.Now then 15 else 0
 else if q.Kind=7 then if h.AG.Cc<=q.Id then 16 else if h.AS.getD q.Id.toNat 0<0/\h.AW.length=0 then 17 else 0
 else 0
noncomputable def verdict(h:AA)(q:Aq):Int:=if C7 h=true then Du h q else 1
theorem C4{h:AA}(hh:Ar h)(q:Aq):KG h q=some (verdict h q):=by
 unfold KG verdict;rw [Jb hh,AD,Bg,A7];by_cases hb:C7 h=true
 .rw [if_pos hb,if_pos hb];unfold Du;rw [EG,AD,Bg,A7];cases inB q.Kind 1 7
  .rfl
  .simp only [if_true,Bool.true_eq_false,if_false];rw [uj,AD,Bg,A7];cases ha:J4 q
   .rfl
   .simp only [if_true,Bool.true_eq_false,if_false,A7,beq_iff_eq,AO];by_cases k1:q.Kind=1
    .rw [if_pos k1,if_pos k1,Zd hh,AD]
    .rw [if_neg k1,if_neg k1];by_cases k2:q.Kind=2
     .rw [if_pos k2,if_pos k2,C3 hh,AD];simp only [decide_eq_true_eq];split <;> rfl
     .rw [if_neg k2,if_neg k2];by_cases k3:q.Kind=3
      .rw [if_pos k3,if_pos k3];have hc:0<=q.AK:=by
        unfold J4 at ha;rw [if_neg k1,if_neg (by omega),if_pos k3] at ha;simp only [Bool.and_eq_true,Mq,BH] at ha;exact ha.1.1
       simp only [ge_iff_le,decide_eq_true_eq,EG,AD,Bool.not_eq_true'];by_cases h1:(h.AE.length:Int)<=q.AK
       .rw [if_pos h1,if_pos h1]
       .rw [if_neg h1,if_neg h1];cases inB q.AY 1 60
        .rfl
        .simp only [Bool.true_eq_false,if_false];rw [Mc hc (by omega),AD];by_cases h9:E8 h q.AK<q.AY <;> simp [h9] <;> rfl
      .rw [if_neg k3,if_neg k3];unfold R7;by_cases k4:q.Kind=4\/q.Kind=5
       .rw [if_pos k4];rcases k4 with k4|k4
        .simp only [k4,if_true,beq_self_eq_true,BE,LN hh,AD]
        .simp only [k4,if_true,beq_self_eq_true,BE,LN hh,AD];rfl
       .have k4':q.Kind≠4:=fun h=>k4 (.inl h)
        have k5':q.Kind≠5:=fun h=>k4 (.inr h)
        rw [if_neg k4,if_neg k4'];have e5:(q.Kind==5)=false:=by simpa using k5'
        rw [e5,A9]
        try simp only [A7,beq_iff_eq,AO,ge_iff_le,decide_eq_true_eq]
        by_cases k6:q.Kind=6
        .rw [if_pos k6,if_pos k6];split <;> rfl
        .rw [if_neg k6,if_neg k6];by_cases k7:q.Kind=7
         .rw [if_pos k7,if_pos k7];have hR:=AAE hb;have hi:0<=q.Id:=by
           unfold J4 at ha;rw [if_neg k1,if_pos (by omega)] at ha;simp only [Bool.and_eq_true,Mq,BH] at ha;exact ha.1.1
          by_cases h1:h.AG.Cc<=q.Id
          .rw [if_pos h1,if_pos h1]
          .rw [if_neg h1,if_neg h1];obtain⟨n,hn⟩:=Int.eq_ofNat_of_zero_le hi;have hl:n<h.AS.length:=by have:=hR.K8;omega
           rw [hn,Af hl,AD,Int.toNat_natCast,List.getD_eq_getElem?_getD,List.getElem?_eq_getElem hl,Option.getD_some];unfold R8 IK;simp only [A7,AO,beq_iff_eq];by_cases h2:h.AS[n]<0 <;> by_cases h3:h.AW.length=0 <;> simp [h2,h3]
         .rw [if_neg k7,if_neg k7];rfl
 .rw [if_neg hb,if_neg hb]
end Lv.P
namespace Lv.P
open Lv Go
def LO(l:List Int)(k:Int):List Int:=if l.any (fun y=>y==k)=true then l else l++[k]
theorem ES{l:List Int}(hl:l.length<=1048576)(k:Int):Jp l k=some (LO l k):=by
 have hlim:lim=268435456:=rfl;unfold Jp LO;rw [BP (by omega),Jg (by omega),AD,A7,List.nil_append];split
 .rfl
 .rw [BP (by simp;omega)]
def cbn(h:AA)(k:Int):AZ:=h.AE.getD k.toNat aF
def BG(h:AA)(k:Int)(c:AZ):AA:=⟨h.AG,h.Now,h.AQ,h.AB,h.AE.set k.toNat c,h.AW,h.AS⟩
theorem Oy{h:AA}{k:Int}(h0:0<=k)(h1:k<h.AE.length):cbn h k∈h.AE:=by
 unfold cbn;have:k.toNat<h.AE.length:=by omega
 rw [List.getD_eq_getElem?_getD,List.getElem?_eq_getElem this];exact List.getElem_mem this
theorem Qa{h:AA}(hh:Ar h){p:AH}(h0:0<=p.AK)(h1:p.AK<h.AE.length) :
 QC h p=some (BG h p.AK ⟨(cbn h p.AK).AM,put ltE (C1 h.AG p h.Now).1 (cbn h p.AK).Row,(cbn h p.AK).BL⟩):=by
 have hlim:lim=268435456:=rfl;have hs:=hh.Cl;have hc:=(hh.B4 _ (Oy h0 h1)).1;unfold QC;rw [Ob (by omega),AD,FU h0 h1,AD,AD];show bd (bk (cbn h p.AK).Row _) _=_;rw [NF (by omega),AD,AD,AD];rfl
theorem Oc{h:AA}(hh:Ar h){p:AH}(h0:0<=p.AK)(h1:p.AK<h.AE.length) :
 SC h p=some (BG h p.AK ⟨(l8 (cbn h p.AK).AM p.AY 1 (-1) 0 0).1,(cbn h p.AK).Row,(VS (cbn h p.AK).BL ⟨p.Bh,p.Id⟩).1⟩):=by
 have hc:=(hh.B4 _ (Oy h0 h1)).2;unfold SC;rw [FU h0 h1,AD,AD,U9,AD];show bd (WS (cbn h p.AK).BL _) _=_;rw [Mb hc,AD,AD,AD,BP ⟨rfl,⟨by omega,by omega⟩,trivial⟩];rfl
def gone(h:AA)(p:AH):AA:=
 let h':AA:=⟨h.AG,h.Now,h.AQ,h.AB.eraseP (fun x=>x.Id==p.Id),h.AE,h.AW,h.AS⟩
 if 0<=p.Ay then BG h' p.Ay ⟨(l8 (cbn h p.Ay).AM p.AY 0 0 0 (-1)).1,(cbn h p.Ay).Row,(cbn h p.Ay).BL⟩ else h'
theorem Gc{h:AA}(hh:Ar h){p:AH}(h1:p.Ay<h.AE.length):MR h p=some (gone h p):=by
 unfold MR SE gone;rw [Vg hh.BC,AD,BT];by_cases h0:0<=p.Ay
 .rw [if_pos h0,if_pos h0,FU h0 h1,AD,AD,Qj,AD,AD,AD,AO];rfl
 .rw [if_neg h0,if_neg h0,AO]
def N9(h:AA)(k n:Int):AA:=
 let h':=BG h k ⟨(l8 (cbn h k).AM n 1 0 (-1) 0).1,(cbn h k).Row,(cbn h k).BL⟩
 ⟨h'.AG,h'.Now,h'.AQ,h'.AB,h'.AE,LO h.AW k,h'.AS⟩
theorem Od{h:AA}(hh:Ar h){k:Int}(h0:0<=k)(h1:k<h.AE.length)(n:Int):WT h k n=some (N9 h k n):=by
 unfold WT N9;rw [FU h0 h1,AD,AD,VA,AD,AD,AD,ES hh.todo,AD];rfl
end Lv.P
namespace Lv.P
open Lv Go
def E9(a b:AH):Bool:=decide (a.Id<b.Id)
def GH(l:List AH)(p:AH):List AH:=
 if 0<=atF (fun x:AH=>x.Id==p.Id) l 0 then l.set (atF (fun x:AH=>x.Id==p.Id) l 0).toNat p else put E9 p l
theorem Hy{l:List AH}(hl:l.length<=1048576)(p:AH):MQ l p=some (GH l p):=by
 have hlim:lim=268435456:=rfl;unfold MQ GH;rw [ND hl,AD,BP (by omega),BT,List.nil_append];split
 .rename_i h0;have h0':0<=atF (fun x:AH=>x.Id==p.Id) l 0:=h0;rcases GS (fun x:AH=>x.Id==p.Id) l 0 with ⟨h1,_⟩|⟨k,hk,h1,_⟩
  .omega
  .rw [h1,Nat.zero_add,Af hk,AD,AD]
 .rename_i h0;have h3:∀i:Nat,i<=l.length->KD l p i=some (l.take i++p::l.drop i):=by
   intro i hi;unfold KD;simp only [Bl,KK,KL,KM,KN,I7,KO,KP,C5,FI,List.nil_append,Int.toNat_natCast];have ht:(l.take i).length<=l.length:=by rw [List.length_take];omega
   rw [BP (by omega),BP (by omega),BP (by simp only [List.length_cons,List.length_nil];omega),BP (by omega),BP (by simp only [List.length_cons,List.length_nil];omega),BP (by omega),BP (by simp only [List.length_cons,List.length_nil];omega),BP (by omega)];rw [BP (by simp only [List.length_append,List.length_cons,List.length_nil,List.length_drop];omega)];simp
  refine Ug (lt:=E9) some (by omega) ?_ ?_
  .intro L i h;unfold Ng KC;rw [A4 h,BE,Af h,AD,AO,AO,h3 i (by omega)];rfl
  .intro L;unfold Ng KC;rw [A3,A9,AO,A9,AO,h3 _ (Nat.le_refl _)];simp
def Cx(r:AN)(p:AH)(now:Int):AH×Bool:=
 if Bc r p now=true/\p.State=2/\w64 (p.Ba+1)<r.BF then (⟨p.Id,p.AK,p.Ay,p.AY,p.Bb,p.Since,p.AQ,1,w64 (now+r.Rest),w64 (p.Ba+1)⟩,true) else (Vc,false)
theorem eH{r:AN}(hr:r.AM.length<2 ^ 62)(p:AH)(now:Int):bE r p now=some (Cx r p now):=by
 unfold bE Nn Cx;rw [Jc hr,AD];simp only [AO,Bg,A7,ge_iff_le,decide_eq_true_eq,bne_iff_ne,ne_eq];cases Bc r p now
 .rfl
 .by_cases h1:p.State=2
  .by_cases h2:r.BF<=w64 (p.Ba+1)
   .have:¬w64 (p.Ba+1)<r.BF:=by omega
    simp [h1,h2,this];rfl
   .have:w64 (p.Ba+1)<r.BF:=by omega
    simp [h1,h2,this]
  .simp [h1];rfl
end Lv.P
namespace Lv.P
open Lv Go
structure NN(n:Nat)(c:AZ):Prop where
 row:c.Row.length<=n
 Mf:c.BL.AP.length<=1048576
 pins:c.BL.AP.flatten.length<=n
structure Sm(n:Nat)(h:AA):Prop where
 Cl:h.AG.AM.length<=1048576
 BC:h.AB.length<=n
 B2:h.AE.length<=1048576
 B4:∀c∈h.AE,NN n c
 todo:h.AW.length<=n
 DJ:h.AS.length<=1048576
theorem NN.mono{n m:Nat}{c:AZ}(h:NN n c)(hm:n<=m):NN m c:=⟨Nat.le_trans h.row hm,h.Mf,Nat.le_trans h.pins hm⟩
theorem Sm.mono{n m:Nat}{h:AA}(hh:Sm n h)(hm:n<=m):Sm m h:=
 ⟨hh.Cl,Nat.le_trans hh.BC hm,hh.B2,fun c hc=>(hh.B4 c hc).mono hm,Nat.le_trans hh.todo hm,hh.DJ⟩
theorem Sm.fit{n:Nat}{h:AA}(hh:Sm n h)(hn:n<=1048576):Ar h:=
 ⟨hh.Cl,Nat.le_trans hh.BC hn,hh.B2,fun c hc=>⟨Nat.le_trans (hh.B4 c hc).row hn,(hh.B4 c hc).Mf,Nat.le_trans (hh.B4 c hc).pins hn⟩,Nat.le_trans hh.todo hn,hh.DJ⟩
theorem Sm.cab{n:Nat}{h:AA}(hh:Sm n h){k:Int}{c:AZ}(hc:NN n c):Sm n (BG h k c):=by
 refine⟨hh.Cl,hh.BC,by simpa [BG] using hh.B2,?_,hh.todo,hh.DJ⟩;intro c' hc';rcases List.mem_or_eq_of_mem_set hc' with h1|rfl
 .exact hh.B4 _ h1
 .exact hc
theorem vu(n:Nat):NN n aF:=⟨by simp [aF],by simp [aF],by simp [aF]⟩
theorem Sm.cbn{n:Nat}{h:AA}(hh:Sm n h)(k:Int):NN n (cbn h k):=by
 unfold Lv.P.cbn;rw [List.getD_eq_getElem?_getD];cases hc:h.AE[k.toNat]? with
 |none=>exact vu n
 |some c=>exact hh.B4 c (List.mem_of_getElem? hc)
theorem M8{α:Type}(lt:α->α->Bool)(a:α):∀l:List α,(put lt a l).length=l.length+1
 | []=>rfl
 |b::l=>by unfold put;split <;> simp [M8 lt a l]
theorem Mo{α:Type}(p:α->Bool)(l:List α):(l.eraseP p).length<=l.length:=(List.eraseP_sublist).length_le
theorem mV{n:Nat}{c:AZ}(h:NN n c)(p:Ag):(VS c.BL p).1.AP.length<=1048576/\(VS c.BL p).1.AP.flatten.length<=n:=by
 unfold VS;split
 .refine⟨by simpa using h.Mf,?_⟩;rcases Nat.lt_or_ge (p.At.tmod 9).toNat c.BL.AP.length with hk|hk
  .have h3:c.BL.AP.getD (p.At.tmod 9).toNat []=c.BL.AP[(p.At.tmod 9).toNat]:=by rw [List.getD_eq_getElem?_getD,List.getElem?_eq_getElem hk];rfl
   have h1:=Sd hk ((c.BL.AP[(p.At.tmod 9).toNat]).eraseP (isP p));have h2:=Mo (isP p) (c.BL.AP[(p.At.tmod 9).toNat]);have h4:=h.pins;dsimp only;rw [h3];omega
  .dsimp only;rw [List.set_eq_of_length_le hk];exact h.pins
 .exact⟨h.Mf,h.pins⟩
theorem Iu(l:List Int)(k:Int):(LO l k).length<=l.length+1:=by unfold LO;split <;> simp
theorem sk(l:List AH)(p:AH):(GH l p).length<=l.length+1:=by
 unfold GH;split
 .simp
 .rw [M8];omega
theorem ua{n:Nat}{h:AA}(hh:Sm n h){c:AZ}{e:AT}{k:Int}{l:Am}(hc:NN n c):Sm (n+1) (BG h k ⟨l,put ltE e c.Row,c.BL⟩):=by
 refine(hh.mono (Nat.le_succ n)).cab ⟨?_,hc.Mf,Nat.le_trans hc.pins (Nat.le_succ n)⟩;rw [M8];have:=hc.row;omega
theorem Q6{n:Nat}{h:AA}(hh:Sm n h)(p:AH):Sm n (gone h p):=by
 have h0:Sm n ⟨h.AG,h.Now,h.AQ,h.AB.eraseP (fun x=>x.Id==p.Id),h.AE,h.AW,h.AS⟩:=
  ⟨hh.Cl,Nat.le_trans (Mo _ _) hh.BC,hh.B2,hh.B4,hh.todo,hh.DJ⟩
 unfold gone;dsimp only;split
 .have hc:=hh.cbn p.Ay;exact h0.cab ⟨hc.row,hc.Mf,hc.pins⟩
 .exact h0
theorem cF{n:Nat}{h:AA}(hh:Sm n h)(k m:Int):Sm (n+1) (N9 h k m):=by
 have hc:=hh.cbn k;have h1:=(hh.cab (k:=k) (c:=⟨(l8 (Lv.P.cbn h k).AM m 1 0 (-1) 0).1,(Lv.P.cbn h k).Row,(Lv.P.cbn h k).BL⟩) ⟨hc.row,hc.Mf,hc.pins⟩).mono (Nat.le_succ n);unfold N9;exact⟨h1.Cl,h1.BC,h1.B2,h1.B4,Nat.le_trans (Iu _ _) (by have:=hh.todo;omega),h1.DJ⟩
end Lv.P
namespace Lv.P
open Lv Go
noncomputable def dropped(h:AA)(p:AH):AA:=BG h p.AK ⟨(l8 (cbn h p.AK).AM p.AY 1 (-1) 0 0).1,(cbn h p.AK).Row,(VS (cbn h p.AK).BL ⟨p.Bh,p.Id⟩).1⟩
theorem Gw{n:Nat}{h:AA}(hh:Sm n h)(p:AH):Sm n (dropped h p):=by
 have hc:=hh.cbn p.AK;have hw:=mV hc ⟨p.Bh,p.Id⟩;exact hh.cab ⟨hc.row,hw.1,hw.2⟩
def NK(h:AA)(l:List AH):AA:=⟨h.AG,h.Now,h.AQ,l,h.AE,h.AW,h.AS⟩
def EU(h:AA)(p:AH):AA:=BG h p.AK ⟨(cbn h p.AK).AM,put ltE (C1 h.AG p h.Now).1 (cbn h p.AK).Row,(cbn h p.AK).BL⟩
theorem ME{n:Nat}{h:AA}(hh:Sm n h)(p:AH):Sm (n+1) (NK h (GH h.AB p)):=by
 have h1:=hh.mono (Nat.le_succ n);exact⟨h1.Cl,Nat.le_trans (sk _ _) (by have:=hh.BC;omega),h1.B2,h1.B4,h1.todo,h1.DJ⟩
noncomputable def Er(h:AA)(p:AH):AA:=
 if (Cx h.AG p h.Now).2=true then EU (NK (dropped h p) (GH h.AB (Cx h.AG p h.Now).1)) (Cx h.AG p h.Now).1 else gone (dropped h p) p
theorem cA{r:AN}{p:AH}{now:Int}(h:(Cx r p now).2=true):(Cx r p now).1.AK=p.AK:=by
 unfold Cx at h ⊢;split at h
 .rename_i g;rw [if_pos g]
 .cases h
theorem rQ{n:Nat}{h:AA}(hh:Sm n h)(p:AH):Sm (n+2) (Er h p):=by
 unfold Er;split
 .exact ua (ME (Gw hh p) _) ((ME (Gw hh p) _).cbn _)
 .exact(Q6 (Gw hh p) p).mono (by omega)
theorem Me{n:Nat}(hn:n+2<=1048576){h:AA}(hh:Sm n h){p:AH}(h0:0<=p.AK)(h1:p.AK<h.AE.length)(h2:p.Ay<h.AE.length):WR h p=some (Er h p):=by
 unfold WR;rw [Oc (hh.fit (by omega)) h0 h1,AD];have hd:=Gw hh p;have hs:=hh.Cl;show bd (bE h.AG p h.Now) _=_;rw [eH (by omega),AD,Bg,A7];unfold Er;have hlen:(dropped h p).AE.length=h.AE.length:=by simp [dropped,BG]
 split
 .rename_i hf;have hc:=cA hf;rw [Hy (by have:=hh.BC;show h.AB.length<=_;omega),AD];have hw:=ME hd (Cx h.AG p h.Now).1;show bd (QC (NK (dropped h p) (GH h.AB (Cx h.AG p h.Now).1)) _) _=_;rw [Qa (h:=NK (dropped h p) (GH h.AB (Cx h.AG p h.Now).1)) (hw.fit (by omega)) (by rw [hc];exact h0) (by rw [hc];show p.AK<((dropped h p).AE.length:Int);rw [hlen];exact h1),AD];rfl
 .show bd (MR (dropped h p) p) _=_;rw [Gc (hd.fit (by omega)) (by rw [hlen];exact h2),AD]
end Lv.P
namespace Lv.P
open Lv Go
def Bw(h:AA)(l:List Int):AA:=⟨h.AG,h.Now,h.AQ,h.AB,h.AE,l,h.AS⟩
def Ed(h:AA)(id cabin frm size tier:Int):AH:=⟨id,cabin,frm,size,tier,h.Now,h.AQ,1,0,0⟩
def EY(h:AA)(k n:Int):AA:=BG h k ⟨(l8 (cbn h k).AM n 0 0 0 1).1,(cbn h k).Row,(cbn h k).BL⟩
noncomputable def K0(h:AA)(id cabin frm size tier:Int):AA:=
 let p:=Ed h id cabin frm size tier
 let x:=EU ⟨h.AG,h.Now,w64 (h.AQ+1),GH h.AB p,h.AE,h.AW,h.AS⟩ p
 let y:=if 0<=frm then EY x frm size else x
 Bw y (LO y.AW cabin)
noncomputable def QQ(h:AA)(id cabin frm size tier:Int):AA×Int:=
 if verdict h ⟨1,id,cabin,frm,size,tier⟩≠0 then (h,verdict h ⟨1,id,cabin,frm,size,tier⟩) else (K0 h id cabin frm size tier,0)
theorem nH{h:AA}(hh:Ar h){p:AH}(h0:0<=p.AK)(h1:p.AK<h.AE.length):QC h p=some (EU h p):=Qa hh h0 h1
theorem Zp{h:AA}{id cabin frm size tier:Int}(hv:verdict h ⟨1,id,cabin,frm,size,tier⟩=0):C7 h=true/\0<=cabin/\cabin<h.AE.length/\frm<h.AE.length:=by
 unfold verdict at hv;split at hv
 .rename_i hb;unfold Du at hv;split at hv
  .cases hv
  .split at hv
   .cases hv
   .rename_i ha;have ha':J4 ⟨1,id,cabin,frm,size,tier⟩=true:=by simpa using ha
    rw [if_pos rfl] at hv;unfold J4 at ha';rw [if_pos rfl] at ha';simp only [Bool.and_eq_true,Mq,BH] at ha';unfold Th at hv;split at hv
    .cases hv
    .rename_i hc;exact⟨hb,by omega,by dsimp only at hc;omega,by dsimp only at hc;omega⟩
 .cases hv
theorem pZ{n:Nat}(hn:n+3<=1048576){h:AA}(hh:Sm n h)(id cabin frm size tier:Int):kU h id cabin frm size tier=some (QQ h id cabin frm size tier)/\Sm (n+3) (QQ h id cabin frm size tier).1:=by
 have hf:=hh.fit (by omega);unfold kU SA QQ;rw [Dv hf,AD,C4 hf,AD];simp only [A7,bne_iff_ne,ne_eq,BT,ge_iff_le,AO];by_cases hv:verdict h ⟨1,id,cabin,frm,size,tier⟩=0
 .obtain⟨hb,c0,c1,f1⟩:=Zp hv;rw [if_neg (not_not_intro hv),if_neg (not_not_intro hv),Hy hf.BC,AD];have hx0:Sm (n+1) (⟨h.AG,h.Now,w64 (h.AQ+1),GH h.AB (Ed h id cabin frm size tier),h.AE,h.AW,h.AS⟩:AA):=by
   have h1:=ME hh (Ed h id cabin frm size tier);exact⟨h1.Cl,h1.BC,h1.B2,h1.B4,h1.todo,h1.DJ⟩
  have hx:Sm (n+2) (EU ⟨h.AG,h.Now,w64 (h.AQ+1),GH h.AB (Ed h id cabin frm size tier),h.AE,h.AW,h.AS⟩ (Ed h id cabin frm size tier)):=ua hx0 (hx0.cbn _);show bd (QC ⟨h.AG,h.Now,w64 (h.AQ+1),GH h.AB (Ed h id cabin frm size tier),h.AE,h.AW,h.AS⟩ (Ed h id cabin frm size tier)) _=_/\_;rw [nH (hx0.fit (by omega)) (show 0<=(Ed h id cabin frm size tier).AK from c0) (show (Ed h id cabin frm size tier).AK<_ from c1),AD];simp only [decide_eq_true_eq];unfold K0;dsimp only;generalize hX:EU ⟨h.AG,h.Now,w64 (h.AQ+1),GH h.AB (Ed h id cabin frm size tier),h.AE,h.AW,h.AS⟩ (Ed h id cabin frm size tier)=X at hx ⊢;have hlen:X.AE.length=h.AE.length:=by rw [<-hX];simp [EU,BG]
  by_cases hfr:0<=frm
  .rw [if_pos hfr,if_pos hfr,FU hfr (by rw [hlen];exact f1),AD,AD,Vi,AD,AD,AD,ES (by have:=hx.todo;show X.AW.length<=_;omega),AD];have hc:=hx.cbn frm;have ht:Sm (n+2) (EY X frm size):=hx.cab ⟨hc.row,hc.Mf,hc.pins⟩;have ht1:=ht.mono (Nat.le_succ (n+2));exact⟨rfl,ht1.Cl,ht1.BC,ht1.B2,ht1.B4,Nat.le_trans (Iu _ _) (by have:=ht.todo;omega),ht1.DJ⟩
  .rw [if_neg hfr,if_neg hfr];show bd (Jp X.AW cabin) _=_/\_;rw [ES (by have:=hx.todo;omega),AD];have ht1:=hx.mono (Nat.le_succ (n+2));exact⟨rfl,ht1.Cl,ht1.BC,ht1.B2,ht1.B4,Nat.le_trans (Iu _ _) (by have:=hx.todo;omega),ht1.DJ⟩
 .rw [if_pos hv,if_pos hv];exact⟨rfl,hh.mono (by omega)⟩
end Lv.P
namespace Lv.P
open Lv Go
def par(h:AA)(id:Int):AH:=h.AB.getD (CW h id).toNat Vc
theorem Ux{h:AA}(hb:C7 h=true){id:Int}(h0:0<=CW h id):0<=(par h id).AK/\(par h id).AK<h.AE.length /\ -1<=(par h id).Ay/\(par h id).Ay<h.AE.length/\(par h id).Id=id:=by
 have hR:=AAE hb;obtain⟨h1,h2⟩:=Lt h0;have hi:(CW h id).toNat<h.AB.length:=by omega
 have hp:=hR.par _ hi;have he:par h id=h.AB[(CW h id).toNat]:=by unfold par;rw [List.getD_eq_getElem?_getD,List.getElem?_eq_getElem hi];rfl
 rw [<-he] at hp;unfold Bc at hp;have hs:=hR.Cl;simp only [Bool.and_eq_true,BH] at hp;obtain⟨_,_,_,hc,hf,_⟩:=hp;rw [Ai (by omega) (by omega)] at hc hf;have:=hR.B2;exact⟨hc.1,by omega,hf.1,by omega,h2⟩
noncomputable def QG(h:AA)(k n:Int):AA×Int:=
 if verdict h ⟨3,0,k,0,n,0⟩≠0 then (h,verdict h ⟨3,0,k,0,n,0⟩) else (N9 h k n,0)
theorem Om{h:AA}{k n:Int}(hv:verdict h ⟨3,0,k,0,n,0⟩=0):C7 h=true/\0<=k/\k<h.AE.length:=by
 unfold verdict at hv;split at hv
 .rename_i hb;unfold Du at hv;split at hv
  .cases hv
  .split at hv
   .cases hv
   .rename_i ha;have ha':J4 ⟨3,0,k,0,n,0⟩=true:=by simpa using ha
    have hk:0<=k:=by
     unfold J4 at ha';rw [if_neg (show ¬((3:Int)=1) by decide),if_neg (show ¬((3:Int)=2\/(3:Int)=4\/(3:Int)=5\/(3:Int)=7) by decide),if_pos rfl] at ha';simp only [Bool.and_eq_true,Mq,BH] at ha';exact ha'.1.1
    simp at hv;refine⟨hb,hk,?_⟩;by_cases hc:(h.AE.length:Int)<=k
    .rw [if_pos hc] at hv;cases hv
    .omega
 .cases hv
theorem U8{m:Nat}(hm:m+1<=1048576){h:AA}(hh:Sm m h)(k n:Int):ka h k n=some (QG h k n)/\Sm (m+1) (QG h k n).1:=by
 have hf:=hh.fit (by omega);unfold ka QG;rw [Dv hf,AD,C4 hf,AD];simp only [A7,bne_iff_ne,ne_eq];by_cases hv:verdict h ⟨3,0,k,0,n,0⟩=0
 .obtain⟨hb,c0,c1⟩:=Om hv;rw [if_neg (not_not_intro hv),if_neg (not_not_intro hv),Od hf c0 c1,AD];exact⟨rfl,cF hh k n⟩
 .rw [if_pos hv,if_pos hv];exact⟨rfl,hh.mono (by omega)⟩
end Lv.P
