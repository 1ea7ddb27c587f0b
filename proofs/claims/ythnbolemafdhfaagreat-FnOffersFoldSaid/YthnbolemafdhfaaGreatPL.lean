/-
  Plain laws: requests are drawn as a house goes on.
-/
import Derived.Test.YthnbolemafdhfaaGreatPK
import Derived.Test.YthnbolemafdhfaaGreatPH
set_option linter.unusedVariables false
set_option linter.unusedSimpArgs false
set_option linter.unusedSectionVars false
namespace Lv.P
open Lv Go
theorem zb{c:AI}(hc:Au c){h:AA}(hh:Ar h):∃x,WQ c h=some x/\Au x.2:=by
 unfold WQ;obtain⟨x1,e1,_,_,_,c1⟩:=Az hc 12;have j4:∀x:AI×Aq,Rt x=some (x.2,x.1):=fun _=>rfl
 have j5:∀(v x:Int) (y:Int×AI) (b:Bool),Au y.2->∃z,Nl h v x y b=some z/\Au z.2:=by
  intro v x y b hy;unfold Nl;obtain⟨z1,f1,_,_,_,g1⟩:=Az hy x;obtain⟨z2,f2,_,_,_,g2⟩:=Az g1 4;obtain⟨z3,f3,_,_,_,g3⟩:=Az hy (if 1>h.AG.Cc then 1 else h.AG.Cc);simp only [f1,f2,f3,IW,AD,A7]
  repeat' split
  all_goals first|exact⟨_,rfl,g2⟩|exact⟨_,rfl,hy⟩|exact⟨_,rfl,g3⟩
 have j3:∀(v x:Int) (y:Int×AI) (b:Bool),Au y.2->∃z,IJ h v x y b=some z/\Au z.2:=by
  intro v x y b hy;unfold IJ;obtain⟨z1,f1,_,_,_,g1⟩:=Az hy 14;obtain⟨z2,f2,_,_,_,g2⟩:=Az g1 x;obtain⟨z3,f3,_,_,_,g3⟩:=Az g2 (if 1>h.AG.AY then 1 else h.AG.AY);obtain⟨z4,f4,_,_,_,g4⟩:=Az g3 (if 1>h.AG.Bq then 1 else h.AG.Bq);obtain⟨z5,f5,g5⟩:=FQ g4 3;obtain⟨z6,f6,_,_,_,g6⟩:=Az g5 x;simp only [f1,f2,f3,f4,f5,f6,IW,AD,A7,AO,Bl,KK,KL,KM,KN,I7,KO,KP,FI,j4]
  repeat' split
  all_goals first|exact⟨_,rfl,g6⟩|exact⟨_,rfl,g5⟩|exact⟨_,rfl,hy⟩|exact j5 _ _ _ _ hy
 have j2:∀x:Int×AI,Au x.2->∃z,Nj h x=some z/\Au z.2:=by
  rintro⟨v,c⟩ hy;unfold Nj;dsimp only at hy ⊢;obtain⟨z1,f1,_,_,_,g1⟩:=Az hy 12;simp only [f1,IW,AD,A7,AO]
  repeat' split
  all_goals exact j3 _ _ _ _ g1
 have hp:=hh.BC;rw [e1,AD,BT];split
 .rename_i h0;obtain⟨o,eo,co⟩:=FQ c1 3;rw [eo,AD,AO];unfold Ni;dsimp only;rw [A7];split
  .obtain⟨z1,f1,a1,_,b1,g1⟩:=Az co (h.AB.length:Int);obtain⟨k,hk⟩:=Int.eq_ofNat_of_zero_le a1;have:=b1 (by omega);rw [f1,AD,hk,Af (by omega),AD,AO];exact j2 _ g1
  .rw [AO];exact j2 _ co
 .rw [AO];unfold Ni;dsimp only;rw [A9,AO];exact j2 _ c1
theorem eK{c:AI}(hc:Au c){h:AA}(hh:Ar h):∃x,bC c h=some x/\Au x.2:=by
 unfold bC;obtain⟨q,eq,cq⟩:=zb hc hh;obtain⟨a,ea,ca,_⟩:=FG cq (l:=([-1,0,1,4,7,61,1000,9999,10000,9223372036854775807,-9223372036854775808]:List Int)) (by simp);obtain⟨b,eb,_,_,_,cb⟩:=Az ca 20;have j1:∀x:AI×Aq,Fw x=some (x.2,x.1):=fun _=>rfl
 simp only [eq,ea,eb,AD,A7,AO,j1]
 repeat' split
 all_goals exact⟨_,rfl,cb⟩
theorem yZ{c:AI}(hc:Au c){h:AA}(hh:Ar h):∃x,bJ c h=some x/\Au x.2:=by
 have hp:=hh.BC;unfold bJ;have hk:([4,4,5]:List Int)≠[]:=by simp
 refine Hb (n:=h.AB.length) (fun i (v:AI)=>((i:Int),v)) (fun _ v=>Au v) (fun x:Aq×AI=>Au x.2) (by omega) ?_ hc;intro L i v hv hi ih;unfold bL;dsimp only;rcases Nat.lt_or_ge i h.AB.length with hlt|hge
 .rw [A4 hlt,BE,Af hlt,AD,A7];have j2:∀x:Bool×AI,Au x.2->∃r,Np h L i x=some r/\Au r.2:=by
   rintro⟨b,w⟩ hw;unfold Np;dsimp only;obtain⟨z,ez,cz,_⟩:=FG hw hk;rw [Af hlt,AD,ez,AD,Av hlt (by omega),A7];split
   .exact⟨_,rfl,cz⟩
   .exact ih w hw hlt
  obtain⟨o,eo,co⟩:=FQ hv 3;rw [eo,AD];simp only [AO];split
  .exact j2 _ co
  .exact j2 _ hv
 .obtain rfl:i=h.AB.length:=by omega
  rw [A3,A9,AO];unfold bK;obtain⟨o,eo,co⟩:=FQ hv 4;obtain⟨z,ez,_,_,_,cz⟩:=Az co (if 1>(h.AS.length:Int) then 1 else (h.AS.length:Int));rw [eo,AD,A7,IW,AD,ez,AD];split
  .exact⟨_,rfl,co⟩
  .exact⟨_,rfl,cz⟩
theorem AAF{c:AI}(hc:Au c){h:AA}(hh:Ar h){n:Int}(hn:n<=1048576):∃x,ko c h n=some x/\x.1.length<=1048576/\Au x.2:=by
 have hlim:lim=268435456:=rfl;unfold ko;rw [BT];split
 .rename_i h0;obtain⟨m,hm⟩:=Int.eq_ofNat_of_zero_le (show 0<=n by omega);have key:∀x,(∃y:List Aq×Int×AI×AA,x=y/\∃i:Nat,i<=m/\y.2.1=(i:Int)/\y.1.length=i/\Au y.2.2.1/\Ar y.2.2.2)->∃r,Ap (Ny n) big x=some r/\r.1.length<=1048576/\Au r.2:=by
   intro x hx;refine fz (F:=Ny n) (fun x=>∃y:List Aq×Int×AI×AA,x=y/\∃i:Nat,i<=m/\y.2.1=(i:Int)/\y.1.length=i/\Au y.2.2.1/\Ar y.2.2.2) (fun x=>m-x.2.1.toNat) (fun r:List Aq×AI=>r.1.length<=1048576/\Au r.2) ?_ big x hx (NS _ (by omega));rintro L ⟨a,j,v,g⟩ ⟨y,rfl,i,hi,e,ha,hv,hg⟩ ih;dsimp only at e ha hv hg;subst e;unfold Ny;dsimp only;rw [BT];split
   .rename_i hlt;obtain⟨q,eq,cq⟩:=zb hv hg;obtain⟨o,eo,co⟩:=FQ cq 3;obtain⟨l,el,cl⟩:=yZ co hg;have j5:∀z:AI×Aq,Au z.1->∃r,Nx L a i g z=some r/\r.1.length<=1048576/\Au r.2:=by
     rintro⟨w,p⟩ hw;unfold Nx;dsimp only;have hd:=RE hg p;rw [BP (by simp only [List.length_cons,List.length_nil];omega),hd.1,AD,Ai (by omega) (by omega)];exact ih _ ⟨_,rfl,i+1,by omega,by dsimp only;omega,by simp [ha],hw,hd.2.1⟩ (by dsimp only;omega)
    have j4:∀z:AI×Aq,Au z.1->∃r,Nw L a i g z=some r/\r.1.length<=1048576/\Au r.2:=by
     rintro⟨w,p⟩ hw;unfold Nw;dsimp only;obtain⟨o,eo,co⟩:=FQ hw 24;obtain⟨b,eb,cb⟩:=eK co hg;rw [eo,AD,eb,AD,A7,AO,AO];split
     .exact j5 _ cb
     .exact j5 _ co
    rw [eq,AD,eo,AD,el,AD,A7,AO,AO];split
    .exact j4 _ cl
    .exact j4 _ co
   .rw [AO];unfold SK;exact⟨_,rfl,by dsimp only;omega,hv⟩
  obtain⟨q,eq,cq⟩:=zb hc hh;obtain⟨o,eo,co⟩:=FQ cq 3;obtain⟨l,el,cl⟩:=yZ co hh;have j2:∀z:AI×Aq,Au z.1->∃r,Nv h n z=some r/\r.1.length<=1048576/\Au r.2:=by
   rintro⟨w,p⟩ hw;unfold Nv;dsimp only;have hd:=RE hh p;rw [BP (by simp only [List.length_cons,List.length_nil];omega),hd.1,AD,Ai (by omega) (by omega)];exact key _ ⟨_,rfl,1,by omega,rfl,rfl,hw,hd.2.1⟩
  have j1:∀z:AI×Aq,Au z.1->∃r,Nu h n z=some r/\r.1.length<=1048576/\Au r.2:=by
   rintro⟨w,p⟩ hw;unfold Nu;dsimp only;obtain⟨o,eo,co⟩:=FQ hw 24;obtain⟨b,eb,cb⟩:=eK co hh;rw [eo,AD,eb,AD,A7,AO,AO];split
   .exact j2 _ cb
   .exact j2 _ co
  rw [eq,AD,eo,AD,el,AD,A7,AO,AO];split
  .exact j1 _ cl
  .exact j1 _ co
 .rw [AO];exact⟨_,rfl,by simp,hc⟩
theorem AAH{s:List UInt8}(hs:s.length<=1048576){a b:Int}(ha:0<=a/\a<=1000)(hb:0<=b/\b<=1000):∃n,kP s a b=some n/\n<=1000:=by
 unfold kP;have h1:0<=(s.length:Int).tdiv 4:=Int.tdiv_nonneg (by omega) (by omega);have h2:(s.length:Int).tdiv 4<=s.length:=by rw [Int.tdiv_eq_ediv_of_nonneg (by omega)];omega
 rw [BT,Ai (n:=(s.length:Int).tdiv 4) (by omega) (by omega),Ai (by omega) (by omega)];split
 .exact⟨_,rfl,by omega⟩
 .exact⟨_,rfl,by omega⟩
theorem ma.fit{r:AN}(hb:DY r=true){h:AA}(hh:ma r 0 h):Ar h:=by
 obtain⟨a1,a2,a3,a4,a5,a6,a7,a8,a9⟩:=hh;have hr:=BN hb;exact⟨a3,by omega,by omega,a7,by omega,by omega⟩
theorem zc{c:AI}(hc:Au c):∃x,kO c=some x/\Ar x.1/\Au x.2/\Nk x.1:=by
 unfold kO;obtain⟨o,eo,co⟩:=FQ hc 3;obtain⟨h,eh,hh,ch⟩:=uq co;obtain⟨r,er,hr,hrb,cr⟩:=ur co;obtain⟨g,eg,hg⟩:=XK hr hrb;rw [eo,AD,eh,AD,er,AD,eg,AD,A7];split
 .exact⟨_,rfl,hh.2.2.2.1,ch,hh.2.2.2.2.2.2.2⟩
 .exact⟨_,rfl,hg.fit hrb,cr,hg.2.2.2.2.2.2.2.2⟩
theorem VG{s:List UInt8}(hs:s.length<=1048576):∃x,bS s=some x/\Ar x.1/\x.2.length<=1048576/\Nk x.1:=by
 unfold bS;obtain⟨c,ec,hc⟩:=ABs hs;obtain⟨h,eh,hh,ch,nk⟩:=zc hc;obtain⟨o,eo,co⟩:=FQ ch 16;obtain⟨g,eg,hg,cg,nk'⟩:=eM co;have j1:∀z:AA×AI,Ar z.1->Au z.2->Nk z.1->∃x,Nz s z=some x/\Ar x.1/\x.2.length<=1048576/\Nk x.1:=by
  rintro⟨v,w⟩ hv hw hk;unfold Nz;dsimp only;obtain⟨n,en,hn⟩:=AAH hs (a:=4) (b:=40) (by omega) (by omega);obtain⟨b,eb,b1,b2,b3,cb⟩:=Az hw n;have hb:b.1<=1048576:=by
   by_cases h0:0<n
   .have:=b3 h0;omega
   .have:=b2 (by omega);omega
  obtain⟨l,el,hl,_⟩:=AAF cb hv hb;rw [en,AD,eb,AD,el,AD];exact⟨_,rfl,hv,hl,hk⟩
 rw [ec,AD,eh,AD,eo,AD,eg,AD,A7,AO,AO];split
 .exact j1 _ hg cg nk'
 .exact j1 _ hh co nk
end Lv.P
namespace Lv.P
open Lv Go
def Oj(q:Aq)(rs:List A5):Int:=match rs with|r::_=>if q.Kind=6/\r.Code=0 then 1 else 0 | []=>0
def Da:List Aq->List A5->Int
 | [],_=>0
 |q::l,rs=>Oj q rs+Da l rs.tail
theorem vC(q:Aq)(rs:List A5):0<=Oj q rs/\Oj q rs<=1:=by unfold Oj;split <;> (try split) <;> omega
theorem XQ:∀(l:List Aq) (rs:List A5),0<=Da l rs/\Da l rs<=l.length
 | [],_=>by simp [Da]
 |q::l,rs=>by
  have h1:=vC q rs;have h2:=XQ l rs.tail;unfold Da;simp only [List.length_cons];omega
theorem vB{l:List Aq}{rs:List A5}{i:Nat}(hi:i<l.length):Oj l[i] (rs.drop i)=if l[i].Kind=6/\∃h:i<rs.length,rs[i].Code=0 then 1 else 0:=by
 rcases Nat.lt_or_ge i rs.length with h|h
 .rw [Ch h];unfold Oj;simp [h]
 .rw [List.drop_eq_nil_of_le h];unfold Oj;rw [if_neg];rintro⟨_,h',_⟩;omega
theorem XR{l:List Aq}{rs:List A5}(hl:l.length<=1048576){F:(Int×Int->Option Int)->Int×Int->Option Int}
 (step:∀L (v:Int) (i:Nat) (hi:i<l.length),F L (v,(i:Int))=L ((if l[i].Kind=6/\∃h:i<rs.length,rs[i].Code=0 then w64 (v+1) else v),w64 ((i:Int)+1))) (stop:∀L v,F L (v,(l.length:Int))=some v):Ap F big (0,0)=some (Da l rs):=by
 refine(B8 (F:=F) (n:=l.length) (fun i (v:Int)=>(v,(i:Int))) (fun i v=>0<=v/\v<=i) (fun i v=>some (v+Da (l.drop i) (rs.drop i))) (by omega) ?_ (v:=0) ⟨by omega,by omega⟩).trans (by simp);intro L i v hv hi ih;rcases Nat.lt_or_ge i l.length with h|h
 .rw [step L v i h,Av h (by omega),Ch h];unfold Da;rw [vB h,List.tail_drop];split
  .rw [Ai (by omega) (by omega),ih (v+1) ⟨by omega,by omega⟩ h];congr 1;omega
  .rw [ih v ⟨by omega,by omega⟩ h,Int.zero_add]
 .obtain rfl:i=l.length:=by omega
  rw [stop,List.drop_length];simp [Da]
theorem Ye{l:List Aq}{rs:List A5}(hl:l.length<=1048576):kp l rs=some (Da l rs):=by
 unfold kp;refine XR hl ?_ ?_
 .intro L v i h;unfold SN SM WU KH;dsimp only;rw [A4 h,BE,Af h,AD];simp only [A7,beq_iff_eq,AO];by_cases k:l[i].Kind=6
  .rw [if_pos k];rcases Nat.lt_or_ge i rs.length with h'|h'
   .rw [if_pos (by simpa using h'),Af h',AD,AD];by_cases c:rs[i].Code=0 <;> simp [k,h',c]
   .have hn:¬(l[i].Kind=6/\∃h:i<rs.length,rs[i].Code=0):=fun g=>by obtain⟨_,g,_⟩:=g;omega
    rw [if_neg (by simpa using h'),AD,if_neg hn];simp
  .rw [if_neg k,AD];simp [k]
 .intro L v;unfold SN bV;dsimp only;rw [A3,A9,AO]
theorem Zb{l:List Aq}{rs:List A5}(hl:l.length<=1048576):kq l rs=some (Da l rs):=by
 unfold kq;refine XR hl ?_ ?_
 .intro L v i h;unfold SR SP SQ rF SO;dsimp only;rw [A4 h,BE,Af h,AD];simp only [A7,beq_iff_eq,AO];by_cases k:l[i].Kind=6
  .rw [if_pos k];rcases Nat.lt_or_ge i rs.length with h'|h'
   .rw [if_pos (by simpa using h'),Af h',AD,AD];by_cases c:rs[i].Code=0 <;> simp [k,h',c]
   .have hn:¬(l[i].Kind=6/\∃h:i<rs.length,rs[i].Code=0):=fun g=>by obtain⟨_,g,_⟩:=g;omega
    rw [if_neg (by simpa using h'),AD,if_neg hn];simp
  .rw [if_neg k];simp [k]
 .intro L v;unfold SR bW;dsimp only;rw [A3,A9,AO]
theorem pj(h:AA)(i:Nat):(GA h i).Now=h.Now:=by unfold GA;dsimp only;split <;> rfl
theorem XT:∀(k i:Nat) (h:AA),(FT k i h).Now=h.Now
 |0,_,_=>rfl
 |k+1,i,h=>by unfold FT;rw [XT k,pj]
theorem Td(h:AA)(p:AH):(gone h p).Now=h.Now:=(Li h p).now
theorem rK(h:AA)(q:Aq):(doF h q).1.Now=h.Now+(if q.Kind=6/\(doF h q).2.Code=0 then 1 else 0):=by
 unfold doF;by_cases hv:verdict h q=0
 .rw [if_neg (not_not_intro hv)];have hR:=Cm hv;by_cases k1:q.Kind=1
  .rw [if_pos k1,if_neg (by omega),Int.add_zero];unfold QQ;split
   .rfl
   .unfold K0;dsimp only;by_cases h0:0<=q.Ay
    .simp only [h0,if_true];rfl
    .simp only [h0,if_false];rfl
  rw [if_neg k1];by_cases k2:q.Kind=2
  .rw [if_pos k2,if_neg (by omega),Int.add_zero];unfold HT;split
   .rfl
   .unfold cancelled;dsimp only;split <;> rw [Td] <;> rfl
  rw [if_neg k2];by_cases k3:q.Kind=3
  .rw [if_pos k3,if_neg (by omega),Int.add_zero];unfold QG;split <;> rfl
  rw [if_neg k3];by_cases k4:q.Kind=4
  .rw [if_pos k4,if_neg (by omega),Int.add_zero];unfold HR;split
   .rfl
   .unfold accepted;dsimp only;split
    .show (gone _ _).Now=_;rw [Td];rfl
    .rw [Td];rfl
  rw [if_neg k4];by_cases k5:q.Kind=5
  .rw [if_pos k5,if_neg (by omega),Int.add_zero];unfold Fz;split
   .rfl
   .exact(JA h _).now
  rw [if_neg k5];by_cases k6:q.Kind=6
  .rw [if_pos k6];unfold Qd;by_cases hw:verdict h ⟨6,0,0,0,0,0⟩=0
   .rw [if_neg (not_not_intro hw),if_pos ⟨k6,rfl⟩];show (FT _ _ _).Now=_;rw [XT];have:=hR.now;exact Ai (by omega) (by omega)
   .rw [if_pos hw,if_neg (fun g=>hw g.2),Int.add_zero]
  .rw [if_neg k6,if_neg (fun g=>k6 g.1),Int.add_zero];unfold MX;by_cases hw:verdict h ⟨7,q.Id,0,0,0,0⟩=0
   .rw [if_neg (not_not_intro hw)];obtain⟨n,hn,e,_⟩:=Ge rfl hw;dsimp only at e;have eg:h.AS.getD q.Id.toNat 0=h.AS[n]:=by rw [e,Int.toNat_natCast,List.getD_eq_getElem?_getD,List.getElem?_eq_getElem hn];rfl
    unfold LC;rw [eg];split
    .rfl
    .rename_i h0;obtain⟨k,hk,ek⟩:=hR.job hn h0;rw [ek];exact(NC hR hk).2.1.now
   .rw [if_pos hw]
 .rw [if_pos hv,if_neg (fun g=>hv g.2),Int.add_zero]
theorem Lf:∀(l:List Aq) (h:AA),(CS l h).1.Now=h.Now+Da l (CS l h).2
 | [],h=>by simp [CS,Da]
 |q::l,h=>by
  have:=Lf l (doF h q).1;simp only [CS,Da,Oj,List.tail_cons];rw [this,rK h q];omega
theorem Qf{s:List UInt8}(_:okL okT s):Dh s=some true:=by
 unfold Dh D1;rw [cZ,AD,BT];split
 .rfl
 .rename_i hs;obtain⟨x,ex,hf,hl,hn⟩:=VG (s:=s) (by omega);have hd:=PH x.2 hf;rw [ex,AD,U7 hf hl,AD,Ye hl,AD,Zb hl,AD,ne_self,A9,Lf];have hle:=XQ x.2 (CS x.2 x.1).2;have hw:w64 (x.1.Now+Da x.2 (CS x.2 x.1).2)=x.1.Now+Da x.2 (CS x.2 x.1).2:=by
   have h1:=Lf x.2 x.1;have h2:Da x.2 (CS x.2 x.1).2=0\/x.1.Now+Da x.2 (CS x.2 x.1).2<=1000001:=by
    have key:∀(l:List Aq) (h:AA),Da l (CS l h).2=0\/(CS l h).1.Now<=1000001:=by
     intro l
     induction l with
     |nil=>intro h;exact .inl rfl
     |cons q l ih=>
      intro h;rcases ih (doF h q).1 with h5|h5
      .by_cases c:q.Kind=6/\(doF h q).2.Code=0
       .right;have h6:=Lf l (doF h q).1;have h7:=rK h q;rw [if_pos c] at h7;have hv:verdict h q=0:=by
         by_cases hv:verdict h q=0
         .exact hv
         .have:=c.2;unfold doF at this;rw [if_pos hv] at this;exact absurd this hv
        have h8:=(Cm hv).now;simp only [CS];omega
       .left;simp only [CS,Da,Oj,List.tail_cons,if_neg c,h5];rfl
      .right;simpa only [CS] using h5
    rcases key x.2 x.1 with h5|h5
    .exact .inl h5
    .right;omega
   unfold Nk at hn;rcases h2 with h2|h2
   .rw [h2,Int.add_zero];exact Ai hn.1 hn.2
   .exact Ai (by omega) (by omega)
  rw [hw,beq_self_eq_true,BE,AO];congr 1;rw [decide_eq_true_iff];exact hle.2
end Lv.P
