/-
  Plain laws: a right house stays right, whatever is done (joins, cancels, freed seats, answers).
-/
import Derived.Test.YthnbolemafdhfaaGreatPK
set_option linter.unusedVariables false
set_option linter.unusedSimpArgs false
set_option linter.unusedSectionVars false
namespace Lv.P
open Lv Go
theorem VL{t:List Int}{n:Int}:EV t n=true↔(∀k∈t,0<=k/\k<=w64 (n-1))/\t.Pairwise fun a b=>a≠b:=by
 have hat:∀i (hi:i<t.length),P0 t n i=true↔(0<=t[i]/\t[i]<=w64 (n-1))/\∀j (hj:j<i),t[j]≠t[i]:=by
  intro i hi;unfold P0;rw [BB hi];simp only [Bool.and_eq_true,BH,Bool.not_eq_true',List.any_eq_false,beq_iff_eq];refine and_congr Iff.rfl ⟨fun g j hj=>g _ ?_,fun g x hx=>?_⟩
  .exact List.mem_iff_getElem.2 ⟨j,by rw [List.length_take];omega,by rw [List.getElem_take]⟩
  .obtain⟨j,hj,rfl⟩:=List.mem_iff_getElem.1 hx;rw [List.length_take] at hj;rw [List.getElem_take];exact g j (by omega)
 unfold EV;rw [GN];constructor
 .intro g;refine⟨fun k hk=>?_,List.pairwise_iff_getElem.2 fun i j hi hj hij=>((hat j hj).1 (g j hj)).2 i hij⟩;obtain⟨i,hi,rfl⟩:=List.mem_iff_getElem.1 hk;exact((hat i hi).1 (g i hi)).1
 .rintro⟨g1,g2⟩ i hi;exact(hat i hi).2 ⟨g1 _ (List.getElem_mem hi),fun j hj=>List.pairwise_iff_getElem.1 g2 j i (by omega) hi hj⟩
theorem Ok{t:List Int}{n:Nat}(hn:n<=1048576)(h:EV t n=true){k:Int}(h0:0<=k)(h1:k<n):EV (LO t k) n=true:=by
 unfold LO;split
 .exact h
 .rename_i ha;rw [VL] at h ⊢;have ha':∀x∈t,x≠k:=by
   have:t.any (fun y=>y==k)=false:=Bool.eq_false_iff.2 ha;rw [List.any_eq_false] at this;intro x hx e;exact this x hx (by simpa using e)
  refine⟨fun x hx=>?_,?_⟩
  .rcases List.mem_append.1 hx with hx|hx
   .exact h.1 x hx
   .rw [List.mem_singleton.1 hx,Ai (by omega) (by omega)];omega
  .rw [List.pairwise_append];exact⟨h.2,List.pairwise_singleton ..,fun a ha b hb=>by rw [List.mem_singleton.1 hb];exact ha' a ha⟩
theorem RH.len{h:AA}(hR:RH h):h.AE.length<=4/\h.AE.length=h.AG.AM.length:=by
 have:=BN hR.rules;have:=hR.B2;omega
theorem RH.Bw{h:AA}(hR:RH h){l:List Int}(hl:EV l h.AE.length=true):RH (Bw h l):=⟨hR.rules,hR.now,hR.Dt,hR.B2,hR.Dm,hR.cab,hl,hR.DJ,hR.K8⟩
theorem RH.HO{h:AA}(hR:RH h){l:List Int}(hl:GM l h.AE.length=true)(hn:l.length=h.AS.length):RH (HO h l):=⟨hR.rules,hR.now,hR.Dt,hR.B2,hR.Dm,hR.cab,hR.todo,hl,by show (l.length:Int)=_;rw [hn];exact hR.K8⟩
theorem RH.put{h:AA}(hR:RH h){k:Int}(h0:0<=k)(h1:k<h.AE.length):RH (Lv.P.Bw h (LO h.AW k)):=hR.Bw (Ok (by have:=hR.len;omega) hR.todo h0 h1)
theorem Xj{h:AA}(hR:RH h){id:Int}(h0:0<=CW h id):RH (cancelled h id):=by
 have ho:=hR.one h0;have hs:=ho.size;have hlen:=hR.len;unfold cancelled;dsimp only;split
 .rename_i s2;refine Q5 hR ho (g:=Bw (dropped h (par h id)) (LO (dropped h (par h id)).AW (par h id).AK)) (JT hR ho s2 (.inr ⟨rfl,rfl⟩)) rfl rfl rfl rfl (by simp [Bw,dropped,BG]) ?_ rfl;exact Ok (by omega) hR.todo hs.2.1.1 (by omega)
 .rename_i s2;have s1:(par h id).State=1:=by have:=(Cb ho.okp);omega
  have:=ho.pid;exact Q5 hR ho (g:=Ol h (par h id).AK id) (jK hR ho s1) rfl rfl rfl rfl (by simp [Ol,BG]) hR.todo rfl
theorem cE{h:AA}(hR:RH h){k:Nat}(hk:k<h.AE.length){n:Int}(hn:0<=n/\n<=60)(hl:(cbn h k).AM.EB+n<=(cbn h k).AM.Dz):RH (N9 h k n):=by
 have hlen:=hR.len;have hc:=hR.cb hk;have kl:=D3.1 hc.led;have hl':CO ⟨(cbn h k).AM.Total,(cbn h k).AM.Co+1*n,(cbn h k).AM.Cp+0*n,(cbn h k).AM.Dz+(-1)*n,(cbn h k).AM.EB+0*n⟩=true:=by
  rw [D3];dsimp only;omega
 have e8:=Wk hc.led hn (by omega) (by omega) (by omega) (by omega) hl';refine RH.mk' hR.rules hR.now hR.Dt (by show (h.AE.set _ _).length=_;rw [List.length_set];exact hR.B2) hR.Dm ?_ (by show EV (LO h.AW k) ((h.AE.set _ _).length:Nat)=true;rw [List.length_set];exact Ok (by omega) hR.todo (by omega) (by omega)) (by show GM h.AS ((h.AE.set _ _).length:Nat)=true;rw [List.length_set];exact hR.DJ) hR.K8;intro i hi;have hi':i<h.AE.length:=by have:i<(h.AE.set (k:Int).toNat _).length:=hi;rw [List.length_set] at this;exact this
 have hci:=hR.cb hi';show NM h.AG h.AB h.Now i (cbn (BG h k ⟨(l8 (cbn h k).AM n 1 0 (-1) 0).1,(cbn h k).Row,(cbn h k).BL⟩) i);rw [EO (by omega) (by omega) (by omega)];by_cases e:(i:Int)=k
 .obtain rfl:i=k:=by omega
  rw [if_pos rfl,e8];exact⟨hci.row,hci.Cw,hci.total,by dsimp only;rw [hci.held];omega,by dsimp only;rw [hci.EY];omega,hl',hci.room⟩
 .rw [if_neg e];exact hci
theorem Wr{h:AA}(hR:RH h){k:Nat}(hk:k<h.AE.length):E8 h k=(cbn h k).AM.Dz-(cbn h k).AM.EB:=by
 have kl:=D3.1 (hR.cb hk).led;unfold E8;show w64 ((cbn h k).AM.Dz-(cbn h k).AM.EB)=_;exact Ai (by omega) (by omega)
theorem Zv{h:AA}(hR:RH h){id:Int}(h0:0<=CW h id)(s2:(par h id).State=2):RH (accepted h id):=by
 have ho:=hR.one h0;have hs:=ho.size;have hlen:=hR.len;have hh:px h (par h id) _ (Fm h (par h id)):=JT hR ho s2 (.inl ⟨rfl,rfl⟩);have hg:RH (gone (Fm h (par h id)) (par h id)):=Q5 hR ho hh rfl rfl rfl rfl (by simp [Fm,BG]) hR.todo rfl;unfold accepted;dsimp only;split
 .rename_i f0;obtain⟨k,hk⟩:=Int.eq_ofNat_of_zero_le f0;have hkl:k<h.AE.length:=by omega
  rw [hk];refine cE hg (by rw [cQ];show k<((Fm h (par h id)).AE.length);simpa [Fm,BG] using hkl) (by omega) ?_;have hck:=hh k hkl;have kl:=D3.1 hck.led;have ht:=hck.EY;rw [Dy _ hs.1,if_pos hk] at ht;have hnn:=eT (h.AB.eraseP fun x=>x.Id==id) k;have hcut:(Fm h (par h id)).AB.eraseP (fun x=>x.Id==(par h id).Id)=h.AB.eraseP fun x=>x.Id==id:=by rw [ho.pid];exact ho.cut
  have hl':CO ⟨(cbn (Fm h (par h id)) k).AM.Total,(cbn (Fm h (par h id)) k).AM.Co+0*(par h id).AY,(cbn (Fm h (par h id)) k).AM.Cp+0*(par h id).AY,(cbn (Fm h (par h id)) k).AM.Dz+0*(par h id).AY,(cbn (Fm h (par h id)) k).AM.EB+(-1)*(par h id).AY⟩=true:=by
   rw [D3];dsimp only;omega
  have e:(cbn (gone (Fm h (par h id)) (par h id)) k).AM=⟨(cbn (Fm h (par h id)) k).AM.Total,(cbn (Fm h (par h id)) k).AM.Co+0*(par h id).AY,(cbn (Fm h (par h id)) k).AM.Cp+0*(par h id).AY,(cbn (Fm h (par h id)) k).AM.Dz+0*(par h id).AY,(cbn (Fm h (par h id)) k).AM.EB+(-1)*(par h id).AY⟩:=by
   unfold gone;dsimp only;rw [if_pos f0,EO f0 (by show (par h id).Ay<((Fm h (par h id)).AE.length:Int);simp only [Fm,BG,List.length_set];omega) (by omega),if_pos hk.symm,hk,Wk hck.led (by omega) (by omega) (by omega) (by omega) (by omega) hl']
  rw [e];dsimp only;omega
 .exact hg
theorem LS{h:AA}{id:Int}(hv:GR h id=0):0<=CW h id/\(par h id).State=2:=by
 unfold GR at hv;by_cases h1:CW h id<0
 .rw [if_pos h1] at hv;cases hv
 .rw [if_neg h1] at hv;by_cases h2:(h.AB.getD (CW h id).toNat Vc).State=2
  .exact⟨by omega,h2⟩
  .rw [if_pos h2] at hv;cases hv
theorem L7{h:AA}{q:Aq}(hv:verdict h q=0):Du h q=0/\J4 q=true:=by
 have hR:=Cm hv;unfold verdict at hv;rw [if_pos (IT.2 hR)] at hv;refine⟨hv,?_⟩;unfold Du at hv;split at hv
 .cases hv
 .split at hv
  .cases hv
  .rename_i h2;simpa using h2
theorem fA{h:AA}{q:Aq}(h1:inB q.Kind 1 7=true)(h2:J4 q=true)(hv:Du h q=0):(q.Kind=1->Th h q=0)/\(q.Kind=2->¬CW h q.Id<0) /\
 (q.Kind=3->q.AK<h.AE.length/\inB q.AY 1 60=true/\q.AY<=E8 h q.AK)/\(q.Kind=4\/q.Kind=5->GR h q.Id=0)/\(q.Kind=6->h.Now<1000000):=by
 unfold Du at hv;rw [h1,h2] at hv;simp only [Bool.true_eq_false,if_false] at hv;refine⟨fun k=>?_,fun k=>?_,fun k=>?_,fun k=>?_,fun k=>?_⟩
 .rw [if_pos k] at hv;exact hv
 .rw [if_neg (by omega),if_pos k] at hv;intro hc;rw [if_pos hc] at hv;cases hv
 .rw [if_neg (by omega),if_neg (by omega),if_pos k] at hv;by_cases c1:(h.AE.length:Int)<=q.AK
  .rw [if_pos c1] at hv;cases hv
  .rw [if_neg c1] at hv;by_cases c2:inB q.AY 1 60=false
   .rw [if_pos c2] at hv;cases hv
   .rw [if_neg c2] at hv;by_cases c3:E8 h q.AK<q.AY
    .rw [if_pos c3] at hv;cases hv
    .exact⟨by omega,by simpa using c2,by omega⟩
 .rw [if_neg (by omega),if_neg (by omega),if_neg (by omega),if_pos k] at hv;exact hv
 .rw [if_neg (by omega),if_neg (by omega),if_neg (by omega),if_neg (by omega),if_pos k] at hv;by_cases c:1000000<=h.Now
  .rw [if_pos c] at hv;cases hv
  .omega
theorem xK{q:Aq}(h:J4 q=true):inB q.Kind 1 7=true:=by
 unfold J4 at h;rw [BH];split at h
 .omega
 .split at h
  .omega
  .split at h
   .omega
   .split at h
    .omega
    .cases h
theorem B6{h:AA}{q:Aq}(hv:verdict h q=0):(q.Kind=1->Th h q=0)/\(q.Kind=2->¬CW h q.Id<0) /\
 (q.Kind=3->q.AK<h.AE.length/\inB q.AY 1 60=true/\q.AY<=E8 h q.AK)/\(q.Kind=4\/q.Kind=5->GR h q.Id=0)/\(q.Kind=6->h.Now<1000000):=
 fA (h:=h) (xK (L7 hv).2) (L7 hv).2 (L7 hv).1
end Lv.P
namespace Lv.P
open Lv Go
theorem bn{h:AA}(hR:RH h){id:Int}(h0:0<=CW h id)(s2:(par h id).State=2):RH (bm h id):=by
 have ho:=hR.one h0;have hs:=ho.size;have hlen:=hR.len;have hf:=cB hR ho s2;have hk:=JA h (par h id);exact hf.put hs.2.1.1 (by have:=hk.B2;omega)
theorem zu:∀{ps:List AH},(∀p∈ps,0<=p.AK/\p.AK<4)->(ps.length:Int)=Bk ps 0+Bk ps 1+Bk ps 2+Bk ps 3
 | [],_=>rfl
 |p::ps,h=>by
  have ih:=zu (ps:=ps) fun q hq=>h q (List.mem_cons_of_mem _ hq)
  have hp:=h p (List.mem_cons_self ..);rw [Ce,Ce,Ce,Ce,List.length_cons];rcases(show p.AK=0\/p.AK=1\/p.AK=2\/p.AK=3 by omega) with e|e|e|e <;> simp [e] <;> omega
theorem qy{ps:List AH}{c:Int}(h:∀p∈ps,p.AK≠c):Bk ps c=0:=by
 induction ps with
 |nil=>rfl
 |cons p ps ih=>
  rw [Ce,if_neg (h p (List.mem_cons_self ..)),ih fun q hq=>h q (List.mem_cons_of_mem _ hq)];omega
theorem RH.cnt{h:AA}(hR:RH h)(c:Int):Bk h.AB c<=h.AG.Room:=by
 have hlen:=hR.len;have hr:=BN hR.rules;by_cases hc:0<=c/\c<h.AE.length
 .obtain⟨k,rfl⟩:=Int.eq_ofNat_of_zero_le hc.1;exact(hR.cb (by omega)).room
 .rw [qy fun p hp=>?_]
  .omega
  .have:=Cb (hR.Dm.par p hp).1;omega
theorem Wj{h:AA}{id cabin frm size tier:Int}(hv:verdict h ⟨1,id,cabin,frm,size,tier⟩=0):RH (K0 h id cabin frm size tier)/\(K0 h id cabin frm size tier).AG=h.AG/\(K0 h id cabin frm size tier).AB.Perm (Ed h id cabin frm size tier::h.AB)/\∀p∈h.AB,p.Id≠id:=by
 have hR:=Cm hv;have hlen:=hR.len;have hr:=BN hR.rules;have hnow:=hR.now;have hturn:=hR.Dt;have hj:=(B6 hv).1 rfl;have ha:=(L7 hv).2;unfold J4 at ha;rw [if_pos rfl] at ha;simp only [Bool.and_eq_true,Mq,BH] at ha;obtain⟨_,ha2,ha3,ha4,ha5⟩:=ha;unfold Th at hj;dsimp only at hj;by_cases c1:(h.AE.length:Int)<=cabin\/(h.AE.length:Int)<=frm\/frm=cabin
 .rw [if_pos c1] at hj;cases hj
 rw [if_neg c1] at hj;by_cases c2:inB size 1 h.AG.AY=false
 .rw [if_pos c2] at hj;cases hj
 rw [if_neg c2] at hj;by_cases c3:h.AG.Bq<=tier
 .rw [if_pos c3] at hj;cases hj
 rw [if_neg c3] at hj;by_cases c4:inB id 1 999=false
 .rw [if_pos c4] at hj;cases hj
 rw [if_neg c4] at hj;by_cases c5:0<=CW h id
 .rw [if_pos c5] at hj;cases hj
 rw [if_neg c5] at hj;by_cases c6:h.AG.Room<=Bk h.AB cabin
 .rw [if_pos c6] at hj;cases hj
 rw [if_neg c6] at hj;by_cases c7:0<=frm/\E8 h frm<size
 .rw [if_pos c7] at hj;cases hj
 rw [if_neg c7] at hj;by_cases c8:1000000<h.AQ
 .rw [if_pos c8] at hj;cases hj
 have c2':=BH.1 (by simpa using c2:inB size 1 h.AG.AY=true);have c4':=BH.1 (by simpa using c4:inB id 1 999=true);have hfresh:∀p∈h.AB,p.Id≠id:=fun p hp e=>c5 (by have:=(hR.Q9 hp).1;rw [e] at this;exact this)
 have hpput:∀p:AH,p.Id=id->GH h.AB p=put E9 p h.AB:=by
  intro p hp;unfold GH;unfold CW at c5;rw [hp,if_neg c5]
 have ew:w64 (h.AQ+1)=h.AQ+1:=Ai (by omega) (by omega);have hpb:Bc h.AG ⟨id,cabin,frm,size,tier,h.Now,h.AQ,1,0,0⟩ h.Now=true:=by
  unfold Bc;simp only [Bool.and_eq_true,BH,Bool.or_eq_true,beq_iff_eq,Bool.not_eq_true',beq_eq_false_iff_ne];have e1:w64 ((h.AG.AM.length:Int)-1)=(h.AG.AM.length:Int)-1:=Ai (by omega) (by omega);have e2:w64 (h.AG.Bq-1)=h.AG.Bq-1:=Ai (by omega) (by omega);have e3:w64 (h.AG.BF-1)=h.AG.BF-1:=Ai (by omega) (by omega);have e4:w64 (h.Now+h.AG.Rest)=h.Now+h.AG.Rest:=Ai (by omega) (by omega);rw [e1,e2,e3,e4];refine⟨hR.rules,hnow,c4',by omega,by omega,by omega,c2',by omega,by omega,by omega,by omega,.inl ⟨trivial,by omega⟩⟩
 have hperm:(put E9 (Ed h id cabin frm size tier) h.AB).Perm (Ed h id cabin frm size tier::h.AB):=OP _ _;have hpn:∀q:AH,q∈Ed h id cabin frm size tier::h.AB->q=Ed h id cabin frm size tier\/q∈h.AB:=fun q hq=>List.mem_cons.1 hq
 have hPR:Iv h.AG h.Now (h.AQ+1) (put E9 (Ed h id cabin frm size tier) h.AB):=by
  refine⟨?_,?_,?_,?_⟩
  .rw [GZ];have h4:=zu (ps:=h.AB) fun p hp=>by have:=Cb (hR.Dm.par p hp).1;omega
   have r0:=hR.cnt 0;have r1:=hR.cnt 1;have r2:=hR.cnt 2;have r3:=hR.cnt 3;rcases(show cabin=0\/cabin=1\/cabin=2\/cabin=3 by omega) with e|e|e|e <;> rw [e] at c6 <;> omega
  .intro q hq;rcases hpn q (hperm.subset hq) with rfl|hq
   .exact⟨hpb,by show h.AQ<h.AQ+1;omega⟩
   .have:=hR.Dm.par q hq;exact⟨this.1,by omega⟩
  .have hd:Jm E9 (Ed h id cabin frm size tier::h.AB):=by
    unfold Jm;rw [List.pairwise_cons];refine⟨fun q hq=>?_,hR.Dm.ids.imp fun h=>.inl (by unfold E9;rw [decide_eq_true_iff];exact h)⟩;have:=hfresh q hq;unfold E9;rw [decide_eq_true_iff,decide_eq_true_iff];show id<q.Id\/q.Id<id;omega
   have hs:BY E9 h.AB=h.AB:=IU Tq (hR.Dm.ids.imp fun h=>by unfold E9;rw [decide_eq_true_iff];exact h);have:=F8 Tq hd;rw [C8,hs] at this;exact this.imp fun h=>by unfold E9 at h;simpa using h
  .rw [hperm.pairwise_iff (fun {a b} h=>by rw [fZ];exact h),List.pairwise_cons];refine⟨fun q hq=>?_,hR.Dm.turns⟩;have h1:=hR.Dm.par q hq;have h2:=Cb h1.1;unfold ED Ed;simp only [Bool.or_eq_false_iff,beq_eq_false_iff_ne,Bool.and_eq_false_iff,decide_eq_false_iff_not];refine⟨by omega,.inl (by omega),.inr (by omega)⟩
 have hu:=hPR.uni;have hz:1<=(Ed h id cabin frm size tier).AY/\(Ed h id cabin frm size tier).AY<=6:=⟨c2'.1,by show size<=6;omega⟩;have hmain:RH (if 0<=frm then EY (EU ⟨h.AG,h.Now,w64 (h.AQ+1),GH h.AB (Ed h id cabin frm size tier),h.AE,h.AW,h.AS⟩ (Ed h id cabin frm size tier)) frm size else EU ⟨h.AG,h.Now,w64 (h.AQ+1),GH h.AB (Ed h id cabin frm size tier),h.AE,h.AW,h.AS⟩ (Ed h id cabin frm size tier)):=by
  rw [hpput _ rfl,ew];generalize hP:Ed h id cabin frm size tier=p at *;have q1:p.AK=cabin:=by rw [<-hP];rfl
  have q2:p.Ay=frm:=by rw [<-hP];rfl
  have q3:p.AY=size:=by rw [<-hP];rfl
  have q4:p.State=1:=by rw [<-hP];rfl
  have q5:Bc h.AG p h.Now=true:=by rw [<-hP];exact hpb
  have hx:∀i:Nat,i<h.AE.length->Jt h.AG (put E9 p h.AB) h.AB h.Now i (cbn (EU ⟨h.AG,h.Now,h.AQ+1,put E9 p h.AB,h.AE,h.AW,h.AS⟩ p) i):=by
   intro i hi;unfold EU;rw [EO (by omega) (by show p.AK<(h.AE.length:Int);omega) (by omega)];have hc:=hR.cb hi;refine Jt.perm ?_ (hu.perm hperm) hperm.symm (.refl _);by_cases e:(i:Int)=p.AK
   .rw [if_pos e,<-e];refine⟨?_,?_,hc.total,?_,hc.EY,hc.led,?_⟩
    .dsimp only;rw [Eo _ q5 q4,if_pos e.symm,I6 q5 q4];show put ltE _ (cbn h i).Row=_;rw [hc.row]
    .dsimp only;rw [Gn _ (by omega)];exact hc.Cw
    .dsimp only;rw [Gl _ (by omega)];exact hc.held
    .rw [Ce,if_pos e.symm];have:(i:Int)=cabin:=by omega
     rw [this];omega
   .rw [if_neg e];refine⟨?_,?_,hc.total,?_,hc.EY,hc.led,?_⟩
    .rw [Eo _ q5 q4,if_neg (Ne.symm e)];exact hc.row
    .rw [Gn _ (by omega)];exact hc.Cw
    .rw [Gl _ (by omega)];exact hc.held
    .rw [Ce,if_neg (Ne.symm e),Int.zero_add];exact hc.room
  have hXl:(EU ⟨h.AG,h.Now,h.AQ+1,put E9 p h.AB,h.AE,h.AW,h.AS⟩ p).AE.length=h.AE.length:=by simp [EU,BG]
  have hX:Kept (⟨h.AG,h.Now,h.AQ+1,put E9 p h.AB,h.AE,h.AW,h.AS⟩:AA) (EU ⟨h.AG,h.Now,h.AQ+1,put E9 p h.AB,h.AE,h.AW,h.AS⟩ p):=⟨rfl,rfl,rfl,hXl,rfl,rfl⟩;have hXs:∀i:Nat,(cbn (EU ⟨h.AG,h.Now,h.AQ+1,put E9 p h.AB,h.AE,h.AW,h.AS⟩ p) i).AM=(cbn h i).AM:=by
   intro i;unfold EU;rw [EO (by omega) (by show p.AK<(h.AE.length:Int);omega) (by omega)];by_cases e:(i:Int)=p.AK
   .rw [if_pos e,e];rfl
   .rw [if_neg e];rfl
  have hXp:(EU ⟨h.AG,h.Now,h.AQ+1,put E9 p h.AB,h.AE,h.AW,h.AS⟩ p).AB=put E9 p h.AB:=rfl;generalize EU ⟨h.AG,h.Now,h.AQ+1,put E9 p h.AB,h.AE,h.AW,h.AS⟩ p=X at *;obtain⟨x1,x2,x3,x4,x5,x6⟩:=hX;dsimp only at x1 x2 x3 x4 x5 x6;split
  .rename_i f0;obtain⟨k,hk⟩:=Int.eq_ofNat_of_zero_le f0;have hkl:k<h.AE.length:=by omega
   have hlo:=Wr hR hkl;have hsz:size<=E8 h frm:=by
    rcases Int.lt_or_le (E8 h frm) size with c|c
    .exact absurd ⟨f0,c⟩ c7
    .exact c
   refine RH.mk' (by show DY X.AG=true;rw [x1];exact hR.rules) (by show 0<=X.Now/\X.Now<=1000000;rw [x2];exact hR.now) (by show 1<=X.AQ/\X.AQ<=1000001;rw [x3];omega) (by simp only [EY,BG,List.length_set];rw [x4,x1];exact hR.B2) (by show Iv X.AG X.Now X.AQ X.AB;rw [x1,x2,x3,hXp];exact hPR) ?_
    (by simp only [EY,BG,List.length_set];rw [x4,x5];exact hR.todo) (by simp only [EY,BG,List.length_set];rw [x4,x6];exact hR.DJ) (by show (X.AS.length:Int)=X.AG.Cc;rw [x6,x1];exact hR.K8)
   intro i hi;have hi':i<h.AE.length:=by simp only [EY,BG,List.length_set] at hi;rw [x4] at hi;exact hi
   have hxi:=hx i hi';unfold EY;rw [EO f0 (by omega) (by omega)];show NM X.AG X.AB X.Now i _;rw [x1,x2,hXp];refine Jt.full (Jt.perm (ps:=put E9 p h.AB) (qs:=p::h.AB) ?_ hu (.refl _) hperm.symm);by_cases e:(i:Int)=frm
   .obtain rfl:i=k:=by omega
    rw [if_pos e,<-e];have kl:=D3.1 hxi.led;have hsame:=hXs i;have hl:CO ⟨(cbn X i).AM.Total,(cbn X i).AM.Co+0*size,(cbn X i).AM.Cp+0*size,(cbn X i).AM.Dz+0*size,(cbn X i).AM.EB+1*size⟩=true:=by
     rw [D3];dsimp only;rw [hk,hlo,<-hsame] at hsz;omega
    rw [Wk hxi.led (by omega) (by omega) (by omega) (by omega) (by omega) hl];refine⟨hxi.row,hxi.Cw,hxi.total,by dsimp only;rw [hxi.held];omega,?_,hl,hxi.room⟩;dsimp only;rw [Dy _ hz,if_pos (by omega),hxi.EY];omega
   .rw [if_neg e];refine⟨hxi.row,hxi.Cw,hxi.total,hxi.held,?_,hxi.led,hxi.room⟩;rw [Dy _ hz,if_neg (by omega),hxi.EY];omega
  .rename_i f0;refine RH.mk' (by rw [x1];exact hR.rules) (by rw [x2];exact hR.now) (by rw [x3];omega) (by rw [x4,x1];exact hR.B2) (by rw [x1,x2,x3,hXp];exact hPR) ?_ (by rw [x4,x5];exact hR.todo) (by rw [x4,x6];exact hR.DJ) (by rw [x6,x1];exact hR.K8);intro i hi;have hi':i<h.AE.length:=by omega
   have hxi:=hx i hi';rw [x1,x2,hXp];refine Jt.full (Jt.perm (ps:=put E9 p h.AB) (qs:=p::h.AB) ?_ hu (.refl _) hperm.symm);refine⟨hxi.row,hxi.Cw,hxi.total,hxi.held,?_,hxi.led,hxi.room⟩;rw [Dy _ hz,if_neg (by omega),hxi.EY];omega
 unfold K0;dsimp only;generalize hY:(if 0<=frm then EY (EU ⟨h.AG,h.Now,w64 (h.AQ+1),GH h.AB (Ed h id cabin frm size tier),h.AE,h.AW,h.AS⟩ (Ed h id cabin frm size tier)) frm size else EU ⟨h.AG,h.Now,w64 (h.AQ+1),GH h.AB (Ed h id cabin frm size tier),h.AE,h.AW,h.AS⟩ (Ed h id cabin frm size tier))=Y at *;have hYc:Y.AE.length=h.AE.length:=by rw [<-hY];split <;> simp [EY,EU,BG]
 have hYp:Y.AB=put E9 (Ed h id cabin frm size tier) h.AB:=by rw [<-hY,hpput _ rfl];split <;> rfl
 have hYr:Y.AG=h.AG:=by rw [<-hY];split <;> rfl
 exact⟨hmain.put (by omega) (by omega),hYr,by show Y.AB.Perm _;rw [hYp];exact hperm,hfresh⟩
end Lv.P
namespace Lv.P
open Lv Go
theorem qh(h:AA)(l:List Int)(j:Int):cbn (Bw h l) j=cbn h j:=rfl
theorem pg{h:AA}{i:Nat}(hi:i<h.AE.length){j:Int}(j0:0<=j):cbn (GA h i) j=if j=i then ⟨(cbn h i).AM,Bn h.AG h.AB i h.Now,(cbn h i).BL⟩ else cbn h j:=by
 unfold GA;dsimp only;split
 .rw [qh,EO (by omega) (by omega) j0]
 .rw [EO (by omega) (by omega) j0]
structure Tk(h g:AA):Prop where
 rules:g.AG=h.AG
 now:g.Now=h.Now
 Dt:g.AQ=h.AQ
 B2:g.AE.length=h.AE.length
 Dm:g.AB=h.AB
 DJ:g.AS=h.AS
theorem vA{h:AA}{i:Nat}:Tk h (GA h i):=by
 unfold GA;dsimp only;split
 .exact⟨rfl,rfl,rfl,by simp [Bw,BG],rfl,rfl⟩
 .exact⟨rfl,rfl,rfl,by simp [BG],rfl,rfl⟩
theorem jI{h:AA}{i:Nat}(hi:i<h.AE.length)(hl:h.AE.length<=1048576)(ht:EV h.AW h.AE.length=true):EV (GA h i).AW h.AE.length=true:=by
 unfold GA;dsimp only;split
 .exact Ok hl ht (by omega) (by omega)
 .exact ht
theorem XS:∀(k i:Nat) {h:AA},i+k=h.AE.length->h.AE.length<=1048576->EV h.AW h.AE.length=true ->
 Tk h (FT k i h)/\EV (FT k i h).AW h.AE.length=true/\∀j:Nat,j<h.AE.length->cbn (FT k i h) j=if i<=j then ⟨(cbn h j).AM,Bn h.AG h.AB j h.Now,(cbn h j).BL⟩ else cbn h j
 |0,i,h,e,hl,ht=>⟨⟨rfl,rfl,rfl,rfl,rfl,rfl⟩,ht,fun j hj=>by rw [if_neg (by omega)];rfl⟩
 |k+1,i,h,e,hl,ht=>by
  have hi:i<h.AE.length:=by omega
  have t:=vA (h:=h) (i:=i);obtain⟨a1,a2,a3⟩:=XS k (i+1) (h:=GA h i) (by rw [t.B2];omega) (by rw [t.B2];exact hl) (by rw [t.B2];exact jI hi hl ht);unfold FT;refine⟨⟨a1.rules.trans t.rules,a1.now.trans t.now,a1.Dt.trans t.Dt,a1.B2.trans t.B2,a1.Dm.trans t.Dm,a1.DJ.trans t.DJ⟩,by rw [t.B2] at a2;exact a2,?_⟩;intro j hj;rw [a3 j (by rw [t.B2];exact hj),t.rules,t.Dm,t.now,pg hi (by omega)];by_cases c:j=i
  .subst c;simp
  .have c':¬((j:Int)=(i:Int)):=by omega
   by_cases c2:i+1<=j
   .have:i<=j:=by omega
    simp [c',c2,this]
   .have:¬(i<=j):=by omega
    simp [c',c2,this]
theorem dU{r:AN}{p:AH}{now:Int}(h:Bc r p now=true)(hn:now<1000000):Bc r p (now+1)=true:=by
 have hk:=Cb h;have hr:=BN hk.1;unfold Bc at h ⊢;simp only [Bool.and_eq_true,BH,Bool.or_eq_true,beq_iff_eq,Bool.not_eq_true',beq_eq_false_iff_ne] at h ⊢;obtain⟨a1,a2,a3,a4,a5,a6,a7,a8,a9,a10,a11,a12⟩:=h;rw [Ai (n:=now+r.Rest) (by omega) (by omega),Ai (n:=now+r.BI) (by omega) (by omega)] at a12;rw [Ai (n:=now+1+r.Rest) (by omega) (by omega),Ai (n:=now+1+r.BI) (by omega) (by omega)];exact⟨a1,by omega,a3,a4,a5,a6,a7,a8,by omega,a10,a11,by omega⟩
theorem XP{h:AA}(hR:RH h)(hn:h.Now<1000000):RH (VI h)/\Tk ⟨h.AG,h.Now+1,h.AQ,h.AB,h.AE,h.AW,h.AS⟩ (VI h):=by
 have hlen:=hR.len;have hnow:=hR.now;have ew:w64 (h.Now+1)=h.Now+1:=Ai (by omega) (by omega);unfold VI;rw [ew];obtain⟨a1,a2,a3⟩:=XS h.AE.length 0 (h:=⟨h.AG,h.Now+1,h.AQ,h.AB,h.AE,h.AW,h.AS⟩) (by dsimp only;omega) (by dsimp only;omega) hR.todo;refine⟨?_,a1⟩;generalize FT h.AE.length 0 (⟨h.AG,h.Now+1,h.AQ,h.AB,h.AE,h.AW,h.AS⟩:AA)=g at *;obtain⟨b1,b2,b3,b4,b5,b6⟩:=a1;dsimp only at b1 b2 b3 b4 b5 b6 a2 a3;have hP:Iv h.AG (h.Now+1) h.AQ h.AB:=⟨hR.Dm.few,fun p hp=>⟨dU (hR.Dm.par p hp).1 hn,(hR.Dm.par p hp).2⟩,hR.Dm.ids,hR.Dm.turns⟩;refine RH.mk' (by rw [b1];exact hR.rules) (by rw [b2];omega) (by rw [b3];exact hR.Dt) (by rw [b4,b1];exact hR.B2) (by rw [b1,b2,b3,b5];exact hP) ?_ (by rw [b4];exact a2) (by rw [b4,b6];exact hR.DJ) (by rw [b6,b1];exact hR.K8);intro i hi;have hi':i<h.AE.length:=by omega
 rw [b1,b2,b5,a3 i hi',if_pos (Nat.zero_le _)];have hc:=hR.cb hi';exact⟨rfl,hc.Cw,hc.total,hc.held,hc.EY,hc.led,hc.room⟩
theorem cW{l:List Int}{n:Nat}(hn:n<=1048576)(h:GM l n=true)(i:Nat){x:Int}(h0:-1<=x)(h1:x<n):GM (l.set i x) n=true:=by
 unfold GM at h ⊢;rw [List.all_eq_true] at h ⊢;intro y hy;rcases List.mem_or_eq_of_mem_set hy with hy|rfl
 .exact h y hy
 .rw [BH,Ai (by omega) (by omega)];omega
theorem nP{h:AA}{who:Int}(hv:verdict h ⟨7,who,0,0,0,0⟩=0):RH (LC h who).1/\(LC h who).1.AG=h.AG:=by
 have hR:=Cm hv;have hlen:=hR.len;obtain⟨n,hn,e,hno⟩:=Ge rfl hv;dsimp only at e;have eg:h.AS.getD who.toNat 0=h.AS[n]:=by rw [e,Int.toNat_natCast,List.getD_eq_getElem?_getD,List.getElem?_eq_getElem hn];rfl
 unfold LC;rw [eg];split
 .rename_i h0;have ht:0<h.AW.length:=by
   rcases Nat.eq_zero_or_pos h.AW.length with h9|h9
   .exact absurd ⟨h0,h9⟩ hno
   .exact h9
  have e0:h.AW.getD 0 0=h.AW[0]:=by rw [List.getD_eq_getElem?_getD,List.getElem?_eq_getElem ht];rfl
  have htd:=VL.1 hR.todo;have h00:=htd.1 _ (List.getElem_mem ht);rw [Ai (by omega) (by omega)] at h00;have hR1:RH (Bw h (h.AW.drop 1)):=hR.Bw (VL.2 ⟨fun k hk=>htd.1 k (List.mem_of_mem_drop hk),htd.2.sublist (List.drop_sublist _ _)⟩);refine⟨hR1.HO ?_ (by rw [List.length_set];rfl),rfl⟩;rw [e0];exact cW (by show h.AE.length<=_;omega) hR.DJ _ (by omega) (by show _<(h.AE.length:Int);omega)
 .rename_i h0;obtain⟨k,hk,ek⟩:=hR.job hn h0;rw [ek];obtain⟨s1,s2,s3⟩:=NC hR hk;have sl:=s1.len;refine⟨s1.HO ?_ (by rw [List.length_set]),s2.rules⟩;exact cW (by omega) s1.DJ _ (by omega) (by omega)
theorem yN{h:AA}(hR:RH h)(q:Aq):RH (doF h q).1/\(doF h q).1.AG=h.AG:=by
 unfold doF;by_cases hv:verdict h q=0
 .rw [if_neg (not_not_intro hv)];by_cases k1:q.Kind=1
  .rw [if_pos k1];unfold QQ;by_cases hw:verdict h ⟨1,q.Id,q.AK,q.Ay,q.AY,q.Bb⟩=0
   .rw [if_neg (not_not_intro hw)];have:=Wj hw;exact⟨this.1,this.2.1⟩
   .rw [if_pos hw];exact⟨hR,rfl⟩
  rw [if_neg k1];by_cases k2:q.Kind=2
  .rw [if_pos k2];unfold HT;by_cases hw:verdict h ⟨2,q.Id,0,0,0,0⟩=0
   .rw [if_neg (not_not_intro hw)];refine⟨Xj hR (by have:=(B6 hw).2.1 rfl;dsimp only at this;omega),?_⟩;unfold cancelled;dsimp only;split <;> exact(Li _ _).rules
   .rw [if_pos hw];exact⟨hR,rfl⟩
  rw [if_neg k2];by_cases k3:q.Kind=3
  .rw [if_pos k3];unfold QG;by_cases hw:verdict h ⟨3,0,q.AK,0,q.AY,0⟩=0
   .rw [if_neg (not_not_intro hw)];have h3:=(B6 hw).2.2.1 rfl;dsimp only at h3;obtain⟨_,c0,c1⟩:=Om hw;obtain⟨k,hk⟩:=Int.eq_ofNat_of_zero_le c0;have hkl:k<h.AE.length:=by omega
    have hlo:=Wr hR hkl;have hsz:=BH.1 h3.2.1;rw [hk] at h3 ⊢;exact⟨cE hR hkl (by omega) (by omega),rfl⟩
   .rw [if_pos hw];exact⟨hR,rfl⟩
  rw [if_neg k3];by_cases k4:q.Kind=4
  .rw [if_pos k4];unfold HR;by_cases hw:verdict h ⟨4,q.Id,0,0,0,0⟩=0
   .rw [if_neg (not_not_intro hw)];have h3:=LS ((B6 hw).2.2.2.1 (.inl rfl));refine⟨Zv hR h3.1 h3.2,?_⟩;unfold accepted;dsimp only;split <;> exact(Li _ _).rules
   .rw [if_pos hw];exact⟨hR,rfl⟩
  rw [if_neg k4];by_cases k5:q.Kind=5
  .rw [if_pos k5];unfold Fz;by_cases hw:verdict h ⟨5,q.Id,0,0,0,0⟩=0
   .rw [if_neg (not_not_intro hw)];have h3:=LS ((B6 hw).2.2.2.1 (.inr rfl));exact⟨bn hR h3.1 h3.2,(JA h _).rules⟩
   .rw [if_pos hw];exact⟨hR,rfl⟩
  rw [if_neg k5];by_cases k6:q.Kind=6
  .rw [if_pos k6];unfold Qd;by_cases hw:verdict h ⟨6,0,0,0,0,0⟩=0
   .rw [if_neg (not_not_intro hw)];have:=XP hR ((B6 hw).2.2.2.2 rfl);exact⟨this.1,this.2.rules⟩
   .rw [if_pos hw];exact⟨hR,rfl⟩
  .rw [if_neg k6];unfold MX;by_cases hw:verdict h ⟨7,q.Id,0,0,0,0⟩=0
   .rw [if_neg (not_not_intro hw)];exact nP hw
   .rw [if_pos hw];exact⟨hR,rfl⟩
 .rw [if_pos hv];exact⟨hR,rfl⟩
theorem SY:∀(l:List Aq) {h:AA},RH h->RH (CS l h).1/\(CS l h).1.AG=h.AG
 | [],h,hR=>⟨hR,rfl⟩
 |q::l,h,hR=>by
  have h1:=yN hR q;have h2:=SY l h1.1;exact⟨h2.1,h2.2.trans h1.2⟩
end Lv.P
