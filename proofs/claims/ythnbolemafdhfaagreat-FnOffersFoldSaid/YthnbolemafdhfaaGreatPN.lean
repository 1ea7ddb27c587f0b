/-
  Plain laws: nobody is offered seats more often than it may try (row 18).
-/
import Derived.Test.YthnbolemafdhfaaGreatPL
import Derived.Test.YthnbolemafdhfaaGreatPM
set_option linter.unusedVariables false
set_option linter.unusedSimpArgs false
set_option linter.unusedSectionVars false
namespace Lv.P
open Lv Go
def Jy(r:AN)(id:Int)(p:AH):Int:=if p.Id=id then r.BF-p.Ba-(if p.State=2 then 1 else 0) else 0
def D9(r:AN)(id:Int):List AH->Int
 | []=>0
 |p::l=>Jy r id p+D9 r id l
theorem ll{r:AN}{p:AH}{now:Int}(h:Bc r p now=true)(id:Int):0<=Jy r id p:=by
 have:=Cb h;unfold Jy;split
 .split <;> omega
 .omega
theorem ln{r:AN}{now:Int}(id:Int):∀{l:List AH},(∀p∈l,Bc r p now=true)->0<=D9 r id l
 | [],_=>by simp [D9]
 |p::l,h=>by
  have h1:=ll (h p (List.mem_cons_self ..)) id;have h2:=ln id (l:=l) fun q hq=>h q (List.mem_cons_of_mem _ hq)
  unfold D9;omega
theorem RH.zP{h:AA}(hR:RH h)(id:Int):0<=D9 h.AG id h.AB:=ln id fun p hp=>(hR.Dm.par p hp).1
theorem Ln{a b:List AH}(hp:a.Perm b)(r:AN)(id:Int):D9 r id a=D9 r id b:=Og (F:=D9 r id) (fun _ _=>rfl) hp
theorem One.off{h:AA}{id:Int}{p:AH}{rest:List AH}(ho:One h id p rest)(j:Int):D9 h.AG j h.AB=Jy h.AG j p+D9 h.AG j rest/\0<=Jy h.AG j p:=⟨Ln ho.perm _ _,ll ho.okp j⟩
theorem PT{h:AA}{id:Int}{p:AH}{rest:List AH}(ho:One h id p rest){g:AA}(hg:g.AB=h.AB):(gone g p).AB=rest:=by
 rw [<-ho.cut,<-ho.pid,<-hg];unfold gone;dsimp only;split <;> rfl
theorem WX{h:AA}{id:Int}{p:AH}{rest:List AH}(ho:One h id p rest)(s2:p.State=2)(j:Int):D9 h.AG j (Er h p).AB<=D9 h.AG j h.AB:=by
 obtain⟨e,hn⟩:=ho.off j;have hk:=Cb ho.okp;have hr:=BN hk.1;rw [e];unfold Er;split
 .rename_i hf;unfold Cx at hf ⊢;split at hf
  .rename_i g;rw [if_pos g];dsimp only;obtain⟨l,e1,e2,_⟩:=ho.set ⟨p.Id,p.AK,p.Ay,p.AY,p.Bb,p.Since,p.AQ,1,w64 (h.Now+h.AG.Rest),w64 (p.Ba+1)⟩ ho.pid;show D9 h.AG j (GH h.AB _)<=_;rw [e1,Ln e2];have ew:w64 (p.Ba+1)=p.Ba+1:=Ai (by omega) (by omega);have:Jy h.AG j ⟨p.Id,p.AK,p.Ay,p.AY,p.Bb,p.Since,p.AQ,1,w64 (h.Now+h.AG.Rest),w64 (p.Ba+1)⟩=Jy h.AG j p:=by
    unfold Jy;rw [ew,s2];dsimp only;split
    .simp only [if_true];rw [if_neg (by omega)];omega
    .rfl
   show Jy h.AG j _+D9 h.AG j rest<=_;rw [this];exact Int.le_refl _
  .cases hf
 .rw [PT ho (g:=dropped h p) rfl];omega
theorem dM{h:AA}{id:Int}{rest:List AH}(ho:One h id (par h id) rest)(s1:(par h id).State=1)(k j:Int):D9 h.AG j (D7 h k id).AB+(if id=j then 1 else 0)=D9 h.AG j h.AB:=by
 obtain⟨e,hn⟩:=ho.off j;rw [e];obtain⟨l,e1,e2,_⟩:=ho.set (dL h (par h id)) ho.pid;show D9 h.AG j (GH h.AB (dL h (par h id)))+_=_;rw [e1,Ln e2];have hp:=ho.pid;have:Jy h.AG j (dL h (par h id))+(if id=j then 1 else 0)=Jy h.AG j (par h id):=by
  unfold Jy dL;dsimp only;rw [s1,hp];split
  .simp
  .simp
 show Jy h.AG j (dL h (par h id))+D9 h.AG j rest+_=_;omega
theorem QF:∀{l:List Int} {g:AA},RH g->mc g l->∀j,D9 g.AG j (I8 l g).AB<=D9 g.AG j g.AB
 | [],g,hR,_,j=>Int.le_refl _
 |id::l,g,hR,hO,j=>by
  obtain⟨h1,h2,h3⟩:=Mp hR hO;have ha:=hO.2 id (List.mem_cons_self ..);have h4:=QF h1 h2 j;have h5:=WX (hR.one ha.1) ha.2 j;rw [h3.rules] at h4;unfold I8;omega
def EE(id:Int):List Int->Int
 | []=>0
 |x::l=>(if x=id then 1 else 0)+EE id l
theorem aM(id:Int):∀a b:List Int,EE id (a++b)=EE id a+EE id b
 | [],b=>by simp [EE]
 |x::a,b=>by simp only [List.cons_append,EE,aM id a b];omega
theorem jl(id:Int):∀a:List Int,0<=EE id a/\EE id a<=a.length
 | []=>by simp [EE]
 |x::a=>by have:=jl id a;simp only [EE,List.length_cons];split <;> omega
theorem XG{k:Nat}(j:Int):∀(n:Nat) {h:AA} (a:List Int),RH h->k<h.AE.length->D9 h.AG j (HI k n h a).1.AB+EE j (HI k n h a).2=D9 h.AG j h.AB+EE j a
 |0,h,a,hR,_=>rfl
 |n+1,h,a,hR,hk=>by
  unfold HI;split
  .rfl
  .rename_i hz;obtain⟨n1,n2,n3,n4,n5⟩:=UQ hR hk hz;have hs:=M3 hR hk hz;have hkp:=JU h k (Ck h k);have h1:=XG j n (a++[Ck h k]) hs.1 (by rw [hkp.B2];exact hk);have h2:=dM (hR.one n1) n2 k j;rw [hkp.rules,aM] at h1;simp only [EE] at h1;omega
theorem dx{h:AA}(hR:RH h){k:Nat}(hk:k<h.AE.length)(j:Int):D9 h.AG j (ER h k).1.AB+EE j (ER h k).2<=D9 h.AG j h.AB:=by
 have ho:=(N4 hR hk).1;obtain⟨e1,e2⟩:=I9 hR ho;have h1:=QF hR ho j;have h2:=XG j 10 (h:=HZ h k) [] e1 (by show k<(HZ h k).AE.length;unfold HZ;rw [e2.B2];exact hk);have h3:(HZ h k).AG=h.AG:=e2.rules;have h4:D9 h.AG j (HZ h k).AB<=D9 h.AG j h.AB:=h1;rw [h3] at h2;simp only [EE] at h2;unfold ER;omega
theorem yw{h:AA}(hR:RH h)(q:Aq)(j:Int):D9 h.AG j (doF h q).1.AB+EE j (doF h q).2.Ids<=D9 h.AG j h.AB+(if q.Kind=1/\q.Id=j/\(doF h q).2.Code=0 then h.AG.BF else 0):=by
 have hr:=BN hR.rules;have triv:∀c:Prop,∀[Decidable c],0<=(if c then h.AG.BF else (0:Int)):=by intro c _;split <;> omega
 unfold doF;by_cases hv:verdict h q=0
 .rw [if_neg (not_not_intro hv)];by_cases k1:q.Kind=1
  .simp only [if_pos k1];unfold QQ;by_cases hw:verdict h ⟨1,q.Id,q.AK,q.Ay,q.AY,q.Bb⟩=0
   .simp only [ne_eq,hw,not_true_eq_false,if_false,EE];obtain⟨_,_,hp,_⟩:=Wj hw;rw [Ln hp];show Jy h.AG j _+_+0<=_;unfold Jy Ed;dsimp only;rw [if_neg (show ¬((1:Int)=2) by omega)];by_cases e:q.Id=j
    .rw [if_pos e,if_pos ⟨k1,e,trivial⟩];omega
    .rw [if_neg e,if_neg (fun g=>e g.2.1)];omega
   .simp only [ne_eq,hw,not_false_eq_true,if_true,EE];have:=triv (q.Kind=1/\q.Id=j/\verdict h ⟨1,q.Id,q.AK,q.Ay,q.AY,q.Bb⟩=0);simp only [hw] at this;omega
  simp only [if_neg k1];rw [if_neg (show ¬(q.Kind=1/\_) from fun g=>k1 g.1),Int.add_zero];by_cases k2:q.Kind=2
  .simp only [if_pos k2];unfold HT;by_cases hw:verdict h ⟨2,q.Id,0,0,0,0⟩=0
   .rw [if_neg (not_not_intro hw)];have ho:=hR.one (id:=q.Id) (by have:=(B6 hw).2.1 rfl;dsimp only at this;omega);obtain⟨e,hn⟩:=ho.off j;have:(cancelled h q.Id).AB=h.AB.eraseP fun x=>x.Id==q.Id:=by
     unfold cancelled;dsimp only;split <;> exact PT ho rfl
    simp only [this,EE];omega
   .rw [if_pos hw];simp [EE]
  simp only [if_neg k2];by_cases k3:q.Kind=3
  .simp only [if_pos k3];unfold QG;split <;> simp [EE,N9,BG]
  simp only [if_neg k3];by_cases k4:q.Kind=4
  .simp only [if_pos k4];unfold HR;by_cases hw:verdict h ⟨4,q.Id,0,0,0,0⟩=0
   .rw [if_neg (not_not_intro hw)];have h3:=LS ((B6 hw).2.2.2.1 (.inl rfl));dsimp only at h3;have ho:=hR.one h3.1;obtain⟨e,hn⟩:=ho.off j;have hg:(gone (Fm h (par h q.Id)) (par h q.Id)).AB=h.AB.eraseP fun x=>x.Id==q.Id:=PT ho rfl
    have:(accepted h q.Id).AB=h.AB.eraseP fun x=>x.Id==q.Id:=by
     rw [<-hg];unfold accepted;dsimp only;split <;> rfl
    simp only [this,EE];omega
   .rw [if_pos hw];simp [EE]
  simp only [if_neg k4];by_cases k5:q.Kind=5
  .simp only [if_pos k5];unfold Fz;by_cases hw:verdict h ⟨5,q.Id,0,0,0,0⟩=0
   .rw [if_neg (not_not_intro hw)];have h3:=LS ((B6 hw).2.2.2.1 (.inr rfl));have:=WX (hR.one h3.1) h3.2 j;simp only [EE,Int.add_zero];exact this
   .rw [if_pos hw];simp [EE]
  simp only [if_neg k5];by_cases k6:q.Kind=6
  .simp only [if_pos k6];unfold Qd;by_cases hw:verdict h ⟨6,0,0,0,0,0⟩=0
   .rw [if_neg (not_not_intro hw)];have:=(XP hR ((B6 hw).2.2.2.2 rfl)).2.Dm;dsimp only at this;show D9 h.AG j (VI h).AB+0<=_;rw [this];omega
   .rw [if_pos hw];simp [EE]
  .simp only [if_neg k6];unfold MX;by_cases hw:verdict h ⟨7,q.Id,0,0,0,0⟩=0
   .rw [if_neg (not_not_intro hw)];obtain⟨n,hn,e,_⟩:=Ge rfl hw;dsimp only at e;have eg:h.AS.getD q.Id.toNat 0=h.AS[n]:=by rw [e,Int.toNat_natCast,List.getD_eq_getElem?_getD,List.getElem?_eq_getElem hn];rfl
    unfold LC;rw [eg];split
    .simp [EE,HO,Bw]
    .rename_i h0;obtain⟨k,hk,ek⟩:=hR.job hn h0;rw [ek];exact dx hR hk j
   .rw [if_pos hw];simp [EE]
 .rw [if_pos hv];have:=triv (q.Kind=1/\q.Id=j/\verdict h q=0);simp only [EE];omega
def UX(id:Int):List A5->Int
 | []=>0
 |r::l=>EE id r.Ids+UX id l
def lZ(id:Int)(q:Aq)(r:A5):Int:=if q.Kind=1/\q.Id=id/\r.Code=0 then 1 else 0
def E5(id:Int):List Aq->List A5->Int
 |q::l,r::rs=>lZ id q r+E5 id l rs
 |_,_=>0
theorem WW(j:Int):∀(l:List Aq) {h:AA},RH h->D9 h.AG j (CS l h).1.AB+UX j (CS l h).2<=D9 h.AG j h.AB+h.AG.BF*E5 j l (CS l h).2
 | [],h,hR=>by simp [CS,UX,E5]
 |q::l,h,hR=>by
  have h1:=yw hR q j;have h2:=yN hR q;have h3:=WW j l h2.1;rw [h2.2] at h3;simp only [CS,UX,E5,lZ];rw [Int.mul_add];have:h.AG.BF*(if q.Kind=1/\q.Id=j/\(doF h q).2.Code=0 then 1 else 0)=(if q.Kind=1/\q.Id=j/\(doF h q).2.Code=0 then h.AG.BF else 0):=by split <;> simp
  rw [this];omega
end Lv.P
namespace Lv.P
open Lv Go
theorem lq{l:List A5}(id:Int)(hl:l.length<=1048576)(hi:∀r∈l,r.Ids.length<=10){F:(Int×Int->Option Int)->Int×Int->Option Int}(G:(Int×Int->Option Int)->Nat->(Int×Int->Option Int)->Int×Int->Option Int)
 (step:∀L (v:Int) (i:Nat) (h:i<l.length),F L (v,(i:Int))=Ap (G L i) big (v,0)) (stop:∀L v,F L (v,(l.length:Int))=some v)
 (step2:∀L i (h:i<l.length) M (v:Int) (k:Nat) (hk:k<l[i].Ids.length),G L i M (v,(k:Int))=M ((if l[i].Ids[k]=id then w64 (v+1) else v),w64 ((k:Int)+1)))
 (stop2:∀L i (h:i<l.length) M v,G L i M (v,(l[i].Ids.length:Int))=L (v,w64 ((i:Int)+1))):Ap F big (0,0)=some (UX id l):=by
 refine(B8 (F:=F) (n:=l.length) (fun i (v:Int)=>(v,(i:Int))) (fun i v=>0<=v/\v<=10*i) (fun i v=>some (v+UX id (l.drop i))) (by omega) ?_ (v:=0) ⟨by omega,by omega⟩).trans (by simp);intro L i v hv hil ih;rcases Nat.lt_or_ge i l.length with h|h
 .have hd:=hi _ (List.getElem_mem h);rw [step L v i h,Ch h];have inner:Ap (G L i) big (v,0)=L (v+EE id l[i].Ids,w64 ((i:Int)+1)):=by
   refine(B8 (F:=G L i) (n:=l[i].Ids.length) (fun k (x:Int)=>(x,(k:Int))) (fun k x=>0<=x/\x<=10*i+k) (fun k x=>L (x+EE id (l[i].Ids.drop k),w64 ((i:Int)+1))) (by omega) ?_ (v:=v) ⟨by omega,by omega⟩).trans (by simp);intro M k x hx hk ihk;rcases Nat.lt_or_ge k l[i].Ids.length with g|g
   .rw [step2 L i h M x k g,Av g (by omega),Ch g];unfold EE;split
    .rw [Ai (by omega) (by omega),ihk (x+1) ⟨by omega,by omega⟩ g];congr 2;omega
    .rw [ihk x ⟨by omega,by omega⟩ g];congr 2;omega
   .have:k=l[i].Ids.length:=by omega
    subst this;rw [stop2 L i h,List.drop_length];simp [EE]
  have hc:=jl id l[i].Ids;rw [inner,Av h (by omega),ih _ ⟨by omega,by omega⟩ h];show _=some (v+(EE id l[i].Ids+UX id (l.drop (i+1))));congr 1;omega
 .obtain rfl:i=l.length:=by omega
  rw [stop,List.drop_length];simp [UX]
theorem MU{l:List A5}(hl:l.length<=1048576)(hi:∀r∈l,r.Ids.length<=10)(id:Int):bX l id=some (UX id l):=by
 unfold bX;refine lq id hl hi (fun L i=>N0 id L i ((l[i]?).getD ⟨0,[]⟩)) ?_ ?_ ?_ ?_
 .intro L v i h;unfold SU;dsimp only;rw [A4 h,BE,Af h,AD,List.getElem?_eq_getElem h];rfl
 .intro L v;unfold SU bZ;dsimp only;rw [A3,A9,AO]
 .intro L i h M v k hk;rw [List.getElem?_eq_getElem h];unfold N0 SS;dsimp only [Option.getD_some];rw [A4 hk,BE,Af hk,AD];simp only [A7,beq_iff_eq,AO];split <;> rfl
 .intro L i h M v;rw [List.getElem?_eq_getElem h];unfold N0 bY;dsimp only [Option.getD_some];rw [A3,A9,AO]
theorem Vf{l:List A5}(hl:l.length<=1048576)(hi:∀r∈l,r.Ids.length<=10)(id:Int):ku l id=some (UX id l):=by
 unfold ku;refine lq id hl hi (fun L i=>N2 l id L i) ?_ ?_ ?_ ?_
 .intro L v i h;unfold SW;dsimp only;rw [A4 h,BE]
 .intro L v;unfold SW bf;dsimp only;rw [A3,A9,AO]
 .intro L i h M v k hk;unfold N2 SV;dsimp only;simp only [Af h,AD,A4 hk,BE,Af hk];simp only [A7,beq_iff_eq,AO];split <;> rfl
 .intro L i h M v;unfold N2 bc;dsimp only;simp only [Af h,AD,A3,A9,AO]
theorem Wi{l:List Aq}{rs:List A5}(hlr:rs.length=l.length){i:Nat}(h:i<l.length)(k:Int):WU l rs i k=some (l[i].Kind==k&&rs[i].Code==0):=by
 unfold WU KH;simp only [Af h,AD,dec_lt,Af (show i<rs.length by omega),AO];rw [decide_eq_true (by omega),BE,Cd]
theorem cT{l:List Aq}{rs:List A5}(hlr:rs.length=l.length)(hl:l.length<=1048576)(id:Int){i:Nat}(h:i<l.length) :
 ∃r,kr l rs id ((i+1:Nat):Int)=some r/\(l[i].Kind=1->l[i].Id=id->rs[i].Code=0->r=(l[i],true)):=by
 have e:w64 ((if false=true then if (↑l.length:Int)>if true=true then if 0>(((i+1:Nat):Int)) then 0 else (((i+1:Nat):Int)) else if 0<(((i+1:Nat):Int)) then 0 else (((i+1:Nat):Int)) then (↑l.length:Int) else if true=true then if 0>(((i+1:Nat):Int)) then 0 else (((i+1:Nat):Int)) else if 0<(((i+1:Nat):Int)) then 0 else (((i+1:Nat):Int)) else if (↑l.length:Int)<if true=true then if 0>(((i+1:Nat):Int)) then 0 else (((i+1:Nat):Int)) else if 0<(((i+1:Nat):Int)) then 0 else (((i+1:Nat):Int)) then (↑l.length:Int) else if true=true then if 0>(((i+1:Nat):Int)) then 0 else (((i+1:Nat):Int)) else if 0<(((i+1:Nat):Int)) then 0 else (((i+1:Nat):Int)))-1)=(i:Int):=by
  have e1:(if 0>(((i+1:Nat):Int)) then 0 else (((i+1:Nat):Int)))=((i+1:Nat):Int):=by rw [if_neg (by omega)]
  simp only [e1,if_true,Bool.false_eq_true,if_false];rw [if_neg (by omega),Ai (by omega) (by omega)];omega
 unfold kr;rw [e];have key:∀n (x:Int),(x = -1\/∃k:Nat,k<l.length/\x=(k:Int))->(x+1).toNat<n->∃r,Ap (IL l rs id) n x=some r:=by
  intro n x hx hn;obtain⟨r,h1,_⟩:=fz (F:=IL l rs id) (fun x=>x = -1\/∃k:Nat,k<l.length/\x=(k:Int)) (fun x=>(x+1).toNat) (fun _=>True) (by
   rintro L x hx ih;rcases hx with rfl|⟨k,hk,rfl⟩
   .unfold IL ba;rw [decide_eq_false (by omega),A9,AO];exact⟨_,rfl,trivial⟩
   .unfold IL N1;rw [decide_eq_true (by omega),BE,Af hk,AD,Wi hlr hk,AD];have hL:∃r,L (w64 ((k:Int)-1))=some r/\True:=by
     rw [Ai (by omega) (by omega)];refine ih _ ?_ (by omega);rcases Nat.eq_zero_or_pos k with h0|h0
     .left;omega
     .right;exact⟨k-1,by omega,by omega⟩
    obtain⟨r,hr,_⟩:=hL;simp only [A7,AO,AD,hr]
    repeat' split
    all_goals exact⟨_,rfl,trivial⟩) n x hx hn
  exact⟨r,h1⟩
 by_cases c:l[i].Kind=1/\l[i].Id=id/\rs[i].Code=0
 .refine⟨(l[i],true),?_,fun _ _ _=>rfl⟩;obtain⟨n,hn⟩:=qS 0 (by omega);rw [hn,Nat.add_zero,GX];unfold IL N1;rw [decide_eq_true (by omega),BE,Af h,AD,Wi hlr h,AD];simp [c.1,c.2.1,c.2.2]
 .obtain⟨r,hr⟩:=key big i (.inr ⟨i,h,rfl⟩) (NS _ (by omega));exact⟨r,hr,fun a b d=>absurd ⟨a,b,d⟩ c⟩
theorem Ti(id:Int):∀(l:List Aq) (rs:List A5),0<=E5 id l rs/\E5 id l rs<=l.length
 | [],rs=>by simp [E5]
 |q::l,[]=>by simp only [E5,List.length_cons];omega
 |q::l,r::rs=>by
  have:=Ti id l rs;simp only [E5,lZ,List.length_cons];split <;> omega
theorem Oq{s:List UInt8}(_:okL okT s):DM s=some true:=by
 unfold DM;rw [cZ,AD,BT];split
 .rfl
 .rename_i hs;obtain⟨x,ex,hf,hl,hn⟩:=VG (s:=s) (by omega);rw [ex,AD,Jb hf,AD,Bg];by_cases hb:C7 x.1=true
  .rw [hb,BE,U7 hf hl,AD];have hR:=IT.1 hb;have hr:=BN hR.rules;obtain⟨_,hlr,hids⟩:=PH x.2 hf;have hmain:=fun j=>WW j x.2 hR
   have hfin:=fun j=>(SY x.2 hR).1.zP j
   have hrul:=(SY x.2 hR).2;generalize hD:CS x.2 x.1=D at *;have one:∀(L:Int->Option Bool) (id:Int),Ap (Cg x D L id) big (x.1.AG.BF,0)=L (w64 (id+1)):=by
    intro L id;refine(B8 (F:=Cg x D L id) (n:=x.2.length) (fun i (v:Int)=>(v,(i:Int))) (fun i v=>v+x.1.AG.BF*E5 id (x.2.drop i) (D.2.drop i)=x.1.AG.BF+x.1.AG.BF*E5 id x.2 D.2) (fun i v=>L (w64 (id+1))) (by omega) ?_ (v:=x.1.AG.BF) (by simp));intro M i v hv hi ih;unfold Cg;dsimp only;rcases Nat.lt_or_ge i x.2.length with hlt|hge
    .have hlt':i<D.2.length:=by omega
     obtain⟨r,er,hr1⟩:=cT hlr hl id hlt;rw [A4 hlt,BE,Av hlt (by omega),er,AD];simp only [Af hlt,Af hlt',AD];rw [Ch hlt,Ch hlt'] at hv;simp only [E5,lZ] at hv;have hle:=Ti id (x.2.drop (i+1)) (D.2.drop (i+1));have hle2:=Ti id x.2 D.2;unfold B7 De;simp only [AO,A7,beq_iff_eq,Av hlt (show x.2.length<2 ^ 63 by omega),Af hlt,AD];by_cases c:x.2[i].Kind=1/\x.2[i].Id=id/\D.2[i].Code=0
     .have e:=hr1 c.1 c.2.1 c.2.2;rw [if_pos c] at hv;subst e;simp only [c.1,c.2.1,c.2.2,if_true,bne_self_eq_false,beq_self_eq_true,Bool.and_self,Bool.not_true,Bool.false_eq_true,if_false];have b1:0<=x.1.AG.BF*E5 id (x.2.drop (i+1)) (D.2.drop (i+1)):=Int.mul_nonneg (by omega) hle.1;have b2:x.1.AG.BF*E5 id x.2 D.2<=4*1048576:=by
       have:=Int.mul_le_mul (show x.1.AG.BF<=4 by omega) (show E5 id x.2 D.2<=1048576 by omega) hle2.1 (by omega);omega
      have b3:0<=x.1.AG.BF*E5 id x.2 D.2:=Int.mul_nonneg (by omega) hle2.1;rw [Int.mul_add] at hv;have b4:0<=v+x.1.AG.BF+100000000:=by
       have:x.1.AG.BF*E5 id (x.2.drop (i+1)) (D.2.drop (i+1))<=4*1048576:=by
        have h9:E5 id (x.2.drop (i+1)) (D.2.drop (i+1))<=1048576:=by have:=hle.2;rw [List.length_drop] at this;omega
        have:=Int.mul_le_mul (show x.1.AG.BF<=4 by omega) h9 hle.1 (by omega);omega
       omega
      have ew:w64 (v+x.1.AG.BF)=v+x.1.AG.BF:=Ai (by omega) (by omega);rw [ew];exact ih (v+x.1.AG.BF) (by omega) hlt
     .rw [if_neg c,Int.zero_add] at hv;have hM:=ih v hv hlt;have hcc:∀(X:Option Bool),(if r.2=true then if x.2[i].Kind=1 then if x.2[i].Id=id then if D.2[i].Code=0 then X else M (v,((i+1:Nat):Int)) else M (v,((i+1:Nat):Int)) else M (v,((i+1:Nat):Int)) else M (v,((i+1:Nat):Int)))=M (v,((i+1:Nat):Int)):=by
       intro X;split
       .split
        .split
         .split
          .rename_i a1 a2 a3 a4;exact absurd ⟨a2,a3,a4⟩ c
          .rfl
         .rfl
        .rfl
       .rfl
      simp only [Bool.false_eq_true,if_false];rw [hcc];exact hM
    .obtain rfl:i=x.2.length:=by omega
     rw [A3,A9,AO];unfold E0 Df E1;have hll:D.2.length<=1048576:=by omega
     rw [MU hll hids,AD,Vf hll hids,AD,ne_self];rw [List.drop_length] at hv;simp only [E5,Int.mul_zero,Int.add_zero] at hv;have h1:=hmain id;have h2:=hfin id;rw [hrul] at h2;have h3:D9 x.1.AG id x.1.AB<=x.1.AG.BF:=by
      by_cases c:0<=CW x.1 id
      .have ho:=hR.one c;obtain⟨e1,_⟩:=ho.off id;have hz:∀l:List AH,(∀q∈l,q.Id≠id)->D9 x.1.AG id l=0:=by
        intro l
        induction l with
        |nil=>intro _;rfl
        |cons q l ih2=>
         intro hq;unfold D9 Jy;rw [if_neg (hq q (List.mem_cons_self ..)),ih2 fun y hy=>hq y (List.mem_cons_of_mem _ hy)];rfl
       rw [e1,hz _ ho.ne];have:=Cb ho.okp;unfold Jy;split
       .split <;> omega
       .omega
      .have hz:∀l:List AH,(∀q∈l,q.Id≠id)->D9 x.1.AG id l=0:=by
        intro l
        induction l with
        |nil=>intro _;rfl
        |cons q l ih2=>
         intro hq;unfold D9 Jy;rw [if_neg (hq q (List.mem_cons_self ..)),ih2 fun y hy=>hq y (List.mem_cons_of_mem _ hy)];rfl
       rw [hz _ fun q hq e=>c (by have:=(hR.Q9 hq).1;rw [e] at this;exact this)];omega
     have h4:¬(UX id D.2>v):=by omega
     simp only [AO,h4,decide_false,A9]
   refine B8 (F:=Dg x D) (n:=15) (fun i (_:Unit)=>((i:Int)+1)) (fun _ _=>True) (fun _ _=>some true) (by omega) ?_ (v:=()) trivial;intro L i _ _ hi ih;unfold Dg;rw [BT];split
   .rename_i hlt;rw [one,Ai (by omega) (by omega)];have:=ih () trivial (by omega);rw [<-this];congr 1
   .rw [AO];rfl
  .have hb':C7 x.1=false:=by simpa using hb
   rw [hb',A9,MU (by simp) (by simp),AD];rfl
end Lv.P
