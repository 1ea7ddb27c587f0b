/-
  Plain laws: the numbers of a house, the text of a snapshot.
-/
import Derived.Test.YtffakkimlookoaaGreatPB
import Derived.Test.YtffakkimlookoaaGreatPC
set_option linter.unusedVariables false
set_option linter.unusedSimpArgs false
namespace Lv.P
open Go (IntKind BinOp UnOp)
theorem GI{α β γ:Type}{l:List α}(f:α->List β)(J:List β->Option γ){F:(List β×Int->Option γ)->List β×Int->Option γ}(hl:l.length<=1048576)(m:Nat)(hm:∀x,(f x).length<=m){v0:List β}
 (step:∀L i (h:i<l.length) v,v.length<=v0.length+m*i->F L (v,(i:Int))=L (v++f l[i],w64 ((i:Int)+1))) (stop:∀L v,F L (v,(l.length:Int))=J v):AT F big (v0,0)=J (v0++l.flatMap f):=by
 refine(Bz (n:=l.length) (fun i (v:List β)=>(v,(i:Int))) (fun i v=>v=v0++(l.take i).flatMap f/\v.length<=v0.length+m*i) (fun i v=>J (v0++l.flatMap f)) (by omega) ?_ ⟨by simp,by simp⟩);rintro L i v ⟨hv,hb⟩ hi ih;rcases Nat.lt_or_ge i l.length with h|h
 .rw [step L i h v hb,Ag h (by omega)];refine ih _ ⟨?_,?_⟩ h
  .rw [hv,List.take_add_one,List.getElem?_eq_getElem h,List.flatMap_append,List.append_assoc];simp
  .have:=hm l[i];rw [List.length_append,Nat.mul_add];omega
 .obtain rfl:i=l.length:=by omega
  rw [stop,hv,List.take_length]
theorem CD{α β:Type}(f:α->List β){m:Nat}(hm:∀x,(f x).length<=m):∀l:List α,(l.flatMap f).length<=m*l.length
 | []=>by simp
 |x::l=>by
  have:=CD f hm l;have:=hm x;rw [List.flatMap_cons,List.length_append,List.length_cons,Nat.mul_add];omega
def Dm(r:AO):List Int:=[r.BG,r.Room,r.As,r.A2,r.Ax,r.Rest,r.BA,r.Bd]++r.AM
def FG(p:AI):List Int:=[p.Id,p.A4,w64 (p.CB+1),p.As,p.CX,p.Since,p.Ah,p.State,p.BW,p.CA]
def BX(h:AF):List Int:=
 (([((Dm h.AS).length:Int)]++Dm h.AS++[h.Now,h.Ah,(h.AE.length:Int)]++h.AE.flatMap FG)++h.AR.flatMap (fun c=>[c.AM.Co]))++[(h.A7.length:Int)]++h.A7++h.BC.flatMap (fun x=>[w64 (x+1)])
noncomputable def I8(h:AF):List Int:=if Bl h=true then BX h else []
theorem EU{h:AF}(hb:Bl h=true):Bt h.AS=true/\(0<=h.Now/\h.Now<=1000000)/\(1<=h.Ah/\h.Ah<=1000001)/\h.AE.length<=40/\h.AR.length=h.AS.AM.length/\HP h=true/\KS h.A7 h.AR.length=true/\Lb h.BC h.AR.length=true/\(h.BC.length:Int)=h.AS.Bd/\Ho h=true:=by
 unfold Bl at hb;simp only [Bool.and_eq_true,Bp,Bool.not_eq_true',decide_eq_false_iff_not,beq_iff_eq] at hb;obtain⟨h1,h2,h3,h4,h5,h6,⟨h7,h8,h9⟩,h10⟩:=hb;exact⟨h1,h2,h3,by omega,by omega,h6,h7,h8,h9,h10⟩
theorem JA{h:AF}(hh:BO h)(hb:Bl h=true):(BX h).length<=2000000:=by
 have hk:=EU hb;have hr:=BT hk.1;have h1:=CD FG (m:=10) (fun _=>Nat.le_refl _) h.AE;have h2:=CD (fun c:Am=>[c.AM.Co]) (m:=1) (fun _=>Nat.le_refl _) h.AR;have h3:=CD (fun x:Int=>[w64 (x+1)]) (m:=1) (fun _=>Nat.le_refl _) h.BC;have h4:=hh.todo;unfold BX Dm;simp only [List.length_append,List.length_cons,List.length_nil];omega
theorem XC{r:AO}(hr:r.AM.length<=1048576)(hb:Bt r=true):mL r=some (Dm r):=by
 unfold mL;rw [DP (by omega),AA,hb,Ai,Ab,A1 (by simp only [List.length_cons,List.length_nil];unfold lim;omega)];rfl
theorem La{r:AO}(hr:r.AM.length<=1048576)(hb:Bt r=true):X3 r=some (Dm r):=by
 unfold X3;rw [DL (by omega),AA,hb,Ai,Ab,A1 (by simp only [List.length_cons,List.length_nil];unfold lim;omega)];rfl
theorem FV(r:AO):(Dm r).length=8+r.AM.length:=by unfold Dm;simp only [List.length_append,List.length_cons,List.length_nil]
theorem RQ{h:AF}(hh:BO h)(hb:Bl h=true):Rg h=some (BX h):=by
 have hlim:lim=268435456:=rfl;have hk:=EU hb;have hr:=BT hk.1;have h1:=hh.Du;have h2:=hh.MA;have h3:=hh.todo;have h4:=hh.jY;have e4:∀v:List Int,v.length<=5000000->PG h v=some (v++[(h.A7.length:Int)]++h.A7++h.BC.flatMap (fun x=>[w64 (x+1)])):=by
  intro v hv;unfold PG;rw [A1 (by rw [DC];omega),A1 (by rw [List.length_append,List.length_singleton];omega)];refine GI (l:=h.BC) (fun x=>[w64 (x+1)]) some h4 1 (fun _=>Nat.le_refl _) ?_ ?_
  .intro L i hi v' hv';simp only [List.length_append,List.length_singleton] at hv';unfold Tp;dsimp only;rw [Ac hi,Ab,AX hi,AA,A1 (by rw [DC];omega)]
  .intro L v';unfold Tp dt;dsimp only;rw [Ae,Ad,AG]
 have e2:∀v:List Int,v.length<=3000000->PF h v=some ((v++h.AR.flatMap (fun c=>[c.AM.Co]))++[(h.A7.length:Int)]++h.A7++h.BC.flatMap (fun x=>[w64 (x+1)])):=by
  intro v hv;have hc:=CD (fun c:Am=>[c.AM.Co]) (m:=1) (fun _=>Nat.le_refl _) h.AR;unfold PF;rw [GI (l:=h.AR) (fun c=>[c.AM.Co]) (PG h) h2 1 (fun _=>Nat.le_refl _) ?_ ?_,e4 _ (by rw [List.length_append];omega)]
  .intro L i hi v' hv';unfold To;dsimp only;rw [Ac hi,Ab,AX hi,AA,A1 (by rw [DC];omega)]
  .intro L v';unfold To;dsimp only;rw [Ae,Ad,AG]
 have hc:=CD FG (m:=10) (fun _=>Nat.le_refl _) h.AE;have hn:=FV h.AS;have hs:=hh.E2;unfold Rg;rw [Cv hh,AA,hb,Ai,Ab,XC hh.E2 hk.1,AA,A1 (by rw [List.length_singleton];omega),A1 (by simp only [List.length_append,List.length_singleton,List.length_cons,List.length_nil];omega)];rw [GI (l:=h.AE) FG (PF h) h1 10 (fun _=>Nat.le_refl _) ?_ ?_,e2 _ (by simp only [List.length_append,List.length_singleton,List.length_cons,List.length_nil];omega)]
 .rfl
 .intro L i hi v' hv';simp only [List.length_append,List.length_singleton,List.length_cons,List.length_nil] at hv';unfold Tn;dsimp only;rw [Ac hi,Ab,AX hi,AA,A1 (by simp only [List.length_cons,List.length_nil];omega)];rfl
 .intro L v';unfold Tn;dsimp only;rw [Ae,Ad,AG]
theorem Qy{h:AF}(hh:BO h)(hb:Bl h=true):NG h=some (BX h):=by
 have hlim:lim=268435456:=rfl;have hk:=EU hb;have hr:=BT hk.1;have h1:=hh.Du;have h2:=hh.MA;have h3:=hh.todo;have h4:=hh.jY;have e4:∀v:List Int,v.length<=5000000->PL h v=some (v++[(h.A7.length:Int)]++h.A7++h.BC.flatMap (fun x=>[w64 (x+1)])):=by
  intro v hv;unfold PL;rw [A1 (by rw [DC];omega),A1 (by rw [List.length_append,List.length_singleton];omega)];refine GI (l:=h.BC) (fun x=>[w64 (x+1)]) some h4 1 (fun _=>Nat.le_refl _) ?_ ?_
  .intro L i hi v' hv';simp only [List.length_append,List.length_singleton] at hv';unfold T1;dsimp only;rw [Ac hi,Ab,AX hi,AA,A1 (by rw [DC];omega)]
  .intro L v';unfold T1 eC;dsimp only;rw [Ae,Ad,AG]
 have e2:∀v:List Int,v.length<=3000000->PJ h v=some ((v++h.AR.flatMap (fun c=>[c.AM.Co]))++[(h.A7.length:Int)]++h.A7++h.BC.flatMap (fun x=>[w64 (x+1)])):=by
  intro v hv;have hc:=CD (fun c:Am=>[c.AM.Co]) (m:=1) (fun _=>Nat.le_refl _) h.AR;unfold PJ;rw [GI (l:=h.AR) (fun c=>[c.AM.Co]) (PL h) h2 1 (fun _=>Nat.le_refl _) ?_ ?_,e4 _ (by rw [List.length_append];omega)]
  .intro L i hi v' hv';unfold T0;dsimp only;rw [Ac hi,Ab,AX hi,AA,A1 (by rw [DC];omega)]
  .intro L v';unfold T0;dsimp only;rw [Ae,Ad,AG]
 have hc:=CD FG (m:=10) (fun _=>Nat.le_refl _) h.AE;have hn:=FV h.AS;have hs:=hh.E2;unfold NG;rw [Ds hh,AA,hb,Ai,Ab,La hh.E2 hk.1,AA,A1 (by rw [List.length_singleton];omega),A1 (by simp only [List.length_append,List.length_singleton,List.length_cons,List.length_nil];omega)];rw [GI (l:=h.AE) FG (PJ h) h1 10 (fun _=>Nat.le_refl _) ?_ ?_,e2 _ (by simp only [List.length_append,List.length_singleton,List.length_cons,List.length_nil];omega)]
 .rfl
 .intro L i hi v' hv';simp only [List.length_append,List.length_singleton,List.length_cons,List.length_nil] at hv';unfold Tz;dsimp only;rw [Ac hi,Ab,AX hi,AA,A1 (by simp only [List.length_cons,List.length_nil];omega)];rfl
 .intro L v';unfold Tz;dsimp only;rw [Ae,Ad,AG]
theorem jX{h:AF}(hh:BO h)(hb:Bl h=true):du h=some (BX h):=by
 have hlim:lim=268435456:=rfl;have hk:=EU hb;have hr:=BT hk.1;have h1:=hh.Du;have h2:=hh.MA;have h3:=hh.todo;have h4:=hh.jY;have e4:∀v:List Int,v.length<=5000000->PI h v=some (v++[(h.A7.length:Int)]++h.A7++h.BC.flatMap (fun x=>[w64 (x+1)])):=by
  intro v hv;unfold PI;rw [A1 (by rw [DC];omega),A1 (by rw [List.length_append,List.length_singleton];omega)];refine GI (l:=h.BC) (fun x=>[w64 (x+1)]) some h4 1 (fun _=>Nat.le_refl _) ?_ ?_
  .intro L i hi v' hv';simp only [List.length_append,List.length_singleton] at hv';unfold Ts;dsimp only;rw [Ac hi,Ab,AX hi,AA,A1 (by rw [DC];omega)]
  .intro L v';unfold Ts dv;dsimp only;rw [Ae,Ad,AG]
 have e2:∀v:List Int,v.length<=3000000->PH h v=some ((v++h.AR.flatMap (fun c=>[c.AM.Co]))++[(h.A7.length:Int)]++h.A7++h.BC.flatMap (fun x=>[w64 (x+1)])):=by
  intro v hv;have hc:=CD (fun c:Am=>[c.AM.Co]) (m:=1) (fun _=>Nat.le_refl _) h.AR;unfold PH;rw [GI (l:=h.AR) (fun c=>[c.AM.Co]) (PI h) h2 1 (fun _=>Nat.le_refl _) ?_ ?_,e4 _ (by rw [List.length_append];omega)]
  .intro L i hi v' hv';unfold Tr;dsimp only;rw [Ac hi,Ab,AX hi,AA,A1 (by rw [DC];omega)]
  .intro L v';unfold Tr;dsimp only;rw [Ae,Ad,AG]
 have hc:=CD FG (m:=10) (fun _=>Nat.le_refl _) h.AE;have hn:=FV h.AS;have hs:=hh.E2;unfold du;rw [Ds hh,AA,hb,Ai,Ab,La hh.E2 hk.1,AA,A1 (by rw [List.length_singleton];omega),A1 (by simp only [List.length_append,List.length_singleton,List.length_cons,List.length_nil];omega)];rw [GI (l:=h.AE) FG (PH h) h1 10 (fun _=>Nat.le_refl _) ?_ ?_,e2 _ (by simp only [List.length_append,List.length_singleton,List.length_cons,List.length_nil];omega)]
 .rfl
 .intro L i hi v' hv';simp only [List.length_append,List.length_singleton,List.length_cons,List.length_nil] at hv';unfold Tq;dsimp only;rw [Ac hi,Ab,AX hi,AA,A1 (by simp only [List.length_cons,List.length_nil];omega)];rfl
 .intro L v';unfold Tq;dsimp only;rw [Ae,Ad,AG]
theorem XB{h:AF}(hh:BO h):Rg h=some (I8 h):=by
 unfold I8;split
 .rename_i hb;exact RQ hh hb
 .rename_i hb;rw [Bool.not_eq_true] at hb;unfold Rg;rw [Cv hh,AA,hb,Ai,Ad]
theorem VG{h:AF}(hh:BO h):NG h=some (I8 h):=by
 unfold I8;split
 .rename_i hb;exact Qy hh hb
 .rename_i hb;rw [Bool.not_eq_true] at hb;unfold NG;rw [Ds hh,AA,hb,Ai,Ad]
noncomputable def Ba(h:AF)(q:Int):List UInt8:=if Bl h=true/\inB q 0 1000000=true then four ((Gq (pL (q::BX h)):Nat):Int)++pL (q::BX h) else []
theorem P5:∀l:List Int,(pL l).length<=5*l.length
 | []=>by simp [pL]
 |x::l=>by
  have:=P5 l;have:=kS x;unfold pL at *;rw [List.flatMap_cons,List.length_append,List.length_cons];omega
theorem Xb{h:AF}(hh:BO h)(q:Int):Fx h q=some (Ba h q):=by
 have hlim:lim=268435456:=rfl;have hslim:bL=4611686018427387904:=rfl;unfold Fx Ba;rw [Cv hh,AA,Ai,AG,FB,AA,AG];by_cases hb:Bl h=true
 .have hn:=JA hh hb;have hp:=P5 (q::BX h);rw [List.length_cons] at hp;rw [hb,Ab];unfold EJ;rw [Ai,RQ hh hb,AA,A1 (by rw [List.length_singleton];omega),List.singleton_append,bS (by rw [List.length_cons];omega),AA,tL (by omega),AA];unfold NF;rw [AA];cases hq:inB q 0 1000000 with
  |false=>rfl
  |true=>
   rw [Ab,A1 (by simp only [List.length_cons,List.length_nil];omega),if_pos ⟨rfl,rfl⟩];rfl
 .rw [if_neg (fun g=>hb g.1)];rw [Bool.not_eq_true] at hb;rw [hb,Ad];rfl
theorem IM{h:AF}(hh:BO h)(q:Int):X5 h q=some (Ba h q):=by
 have hslim:bL=4611686018427387904:=rfl;unfold X5 Ba orE;by_cases hb:Bl h=true
 .have hn:=JA hh hb;have hp:=P5 (q::BX h);rw [List.length_cons] at hp;have hpn:=kS q;have hpl:=P5 (BX h);have he:(BX h).isEmpty=false:=by
   unfold BX;simp
  have hcc:pN q++pL (BX h)=pL (q::BX h):=rfl;have e:X4 h q=some (if inB q 0 1000000=true then four ((Gq (pL (q::BX h)):Nat):Int)++pL (q::BX h) else []):=by
   unfold X4;rw [jX hh hb,AA,A1 he,E5,AA,Ai];cases hq:inB q 0 1000000 with
   |false=>rfl
   |true=>
    rw [Ab,H0,AA,Z6 (by omega),AA,A1 (by omega),hcc,ri (by omega),AA,A1 (by simp only [List.length_cons,List.length_nil];omega)];rfl
  rw [e];dsimp only;cases hq:inB q 0 1000000 <;> simp [hb]
 .rw [if_neg (fun g=>hb g.1)];rw [Bool.not_eq_true] at hb;have e:X4 h q=none:=by
   unfold X4 du;rw [Ds hh,AA,hb,Ai,Ad,uM]
  rw [e];dsimp only;unfold mO qg;rw [Ds hh,AA,hb,Ai,Ad,AA]
end Lv.P
namespace Lv.P
open Go (IntKind BinOp UnOp)
inductive pj{α:Type}(Q:Int->α->Int->Prop):Int->List α->Int->Prop
 |nil(k:Int):pj Q k [] k
 |cons {k k1 k2:Int} {x:α} {l:List α} (h:Q k x k1) (t:pj Q k1 l k2):pj Q k (x::l) k2
section
variable{α:Type}{Q:Int->α->Int->Prop}
end
end Lv.P
namespace Lv.P
open Go (IntKind BinOp UnOp)
theorem tj{t:List Int}{n:Nat}(hn:n<=4)(h:KS t n=true):t.length<=4:=by
 unfold KS at h;rw [GC] at h;refine Classical.byContradiction fun hg=>?_
 have key:∀i (hi:i<t.length),0<=t[i]/\t[i]<n/\∀j (hj:j<i),t[j]'(by omega)≠t[i]:=by
  intro i hi;have:=h i hi;unfold MN at this;rw [Ay hi,Bool.and_eq_true,Bp,Bool.not_eq_true',List.any_eq_false] at this;rw [AP (by omega) (by omega)] at this;refine⟨by omega,by omega,fun j hj e=>?_⟩;have hm:t[j]'(by omega)∈t.take i:=by rw [List.mem_take_iff_getElem];exact⟨j,by omega,rfl⟩
  exact this.2 _ hm (by rw [e];simp)
 have k0:=key 0 (by omega);have k1:=key 1 (by omega);have k2:=key 2 (by omega);have k3:=key 3 (by omega);have k4:=key 4 (by omega);have a10:=k1.2.2 0 (by omega);have a20:=k2.2.2 0 (by omega);have a21:=k2.2.2 1 (by omega);have a30:=k3.2.2 0 (by omega);have a31:=k3.2.2 1 (by omega);have a32:=k3.2.2 2 (by omega);have a40:=k4.2.2 0 (by omega);have a41:=k4.2.2 1 (by omega);have a42:=k4.2.2 2 (by omega);have a43:=k4.2.2 3 (by omega);omega
theorem RE{h:AF}:(I8 h).length<=500:=by
 unfold I8;split
 .rename_i hb;have hk:=EU hb;have hr:=BT hk.1;have h1:=CD FG (m:=10) (fun _=>Nat.le_refl _) h.AE;have h2:=CD (fun c:Am=>[c.AM.Co]) (m:=1) (fun _=>Nat.le_refl _) h.AR;have h3:=CD (fun x:Int=>[w64 (x+1)]) (m:=1) (fun _=>Nat.le_refl _) h.BC;have h4:=tj (t:=h.A7) (n:=h.AR.length) (by omega) hk.2.2.2.2.2.2.1;unfold BX Dm;simp only [List.length_append,List.length_cons,List.length_nil];omega
 .simp
end Lv.P
namespace Lv.P
open Go (IntKind BinOp UnOp)
def Mo(n:Int):BH×Bool:=if Jx ⟨n,0,0,n,0⟩=true then (⟨n,0,0,n,0⟩,true) else (⟨0,0,0,0,0⟩,false)
def Fl(n:Int):Am×Bool:=if (Mo n).2=true then (⟨(Mo n).1,[],⟨List.replicate 9 []⟩⟩,true) else (⟨⟨0,0,0,0,0⟩,[],⟨[]⟩⟩,false)
def LY(r:AO):AF×Bool:=
 if Bt r=true then (⟨r,0,1,[],r.AM.map (fun n=>(Fl n).1),[],List.replicate r.Bd.toNat (-1)⟩,true) else (⟨⟨[],0,0,0,0,0,0,0,0⟩,0,0,[],[],[],[]⟩,false)
theorem J3:T2=some ⟨List.replicate 9 []⟩:=by
 unfold T2;refine(Bz (n:=9) (fun i (v:AK)=>((i:Int),v)) (fun i v=>v.AJ=List.replicate i []) (fun _ _=>some (⟨List.replicate 9 []⟩:AK)) (by omega) ?_ (v:=⟨[]⟩) rfl);rintro L i ⟨s⟩ hv hi ih;unfold eE eD;dsimp only at hv ih ⊢;subst hv;rw [AV];rcases Nat.lt_or_ge i 9 with h|h
 .rw [if_pos (by omega),A1 (by simp only [List.length_replicate];unfold lim;omega),Ag h (by omega)];exact ih ⟨_⟩ (by rw [List.replicate_succ']) h
 .obtain rfl:i=9:=by omega
  rw [if_neg (by omega),AG]
theorem jv:rD=some ⟨List.replicate 9 []⟩:=rfl
theorem pD{r:AO}(hr:r.AM.length<=1048576):mP r=some r:=by
 unfold mP;rw [A1 (by unfold lim;omega),List.nil_append]
theorem gQ(n:Int):mQ n=some (Mo n):=by
 unfold mQ Mo;rw [NO,AA,Ai,Bu];split <;> rfl
theorem jt(n:Int):mR n=some (Fl n):=by
 unfold mR Fl;rw [gQ,AA,Ai,J3,AA,Bu];split <;> rfl
theorem ju{r:AO}(hr:r.AM.length<=1048576):eF r=some (LY r):=by
 unfold eF LY;rw [DP (by omega),AA,Ai,pD hr,AA,Bu];by_cases hb:Bt r=true
 .have hk:=BT hb;rw [if_pos hb,if_pos hb];refine Bz (n:=r.AM.length) (fun i (v:AF)=>((i:Int),v)) (fun i v=>v=⟨r,0,1,[],(r.AM.take i).map (fun n=>(Fl n).1),[],[]⟩) (fun _ _=>_) (by omega) ?_ (v:=⟨r,0,1,[],[],[],[]⟩) (by simp);rintro L i v hv hi ih;unfold eJ;dsimp only at ih ⊢;rcases Nat.lt_or_ge i r.AM.length with h|h
  .rw [Ac h,Ab,AX h,AA,jt,AA,A1 (by rw [hv,DC];simp;unfold lim;omega),Ag h (by omega)];refine ih _ ?_ h;have e:r.AM.take (i+1)=r.AM.take i++[r.AM[i]]:=by rw [List.take_add_one,List.getElem?_eq_getElem h];rfl
   rw [hv,e,List.map_append];rfl
  .obtain rfl:i=r.AM.length:=by omega
   rw [Ae,Ad,AG,hv,List.take_length];unfold eG;obtain⟨n,hn⟩:=Int.eq_ofNat_of_zero_le (show 0<=r.Bd by omega);refine Bz (n:=n) (fun i (v:AF)=>((i:Int),v)) (fun i v=>v=⟨r,0,1,[],r.AM.map (fun n=>(Fl n).1),[],List.replicate i (-1)⟩) (fun _ _=>_) (by omega) ?_ (v:=⟨r,0,1,[],r.AM.map (fun n=>(Fl n).1),[],[]⟩) rfl;rintro L j w hw hj ih;unfold eK eH;dsimp only at ih ⊢;have hd:decide ((j:Int)<r.Bd)=decide (j<n):=by rw [hn,dec_lt]
   have hc:r.Bd.toNat=n:=by omega
   rw [hd];rcases Nat.lt_or_ge j n with h'|h'
   .rw [decide_eq_true h',Ab,A1 (by rw [hw,DC,List.length_replicate];unfold lim;omega),Ag h' (by omega)];refine ih _ ?_ h';rw [hw,List.replicate_succ']
   .obtain rfl:j=n:=by omega
    rw [decide_eq_false (by omega),Ad,AG,hw,hc]
 .rw [if_neg hb,if_neg hb]
theorem Y7(n:Int):CW (Fl n).1:=by
 unfold Fl;split
 .exact⟨by simp,by simp,by simp⟩
 .exact⟨by simp,by simp,by simp⟩
theorem Zu{r:AO}(hr:r.AM.length<=1048576):BO (LY r).1:=by
 unfold LY;split
 .rename_i hb;have hk:=BT hb;refine⟨hr,by simp,by simpa using hr,?_,by simp,?_⟩
  .intro c hc;obtain⟨n,_,rfl⟩:=List.mem_map.1 hc;exact Y7 n
  .simp;omega
 .exact⟨by simp,by simp,by simp,by simp,by simp,by simp⟩
theorem JM(h:AF)(q:Int):(Ba h q).length<=2600:=by
 unfold Ba;split
 .rename_i hb;have hn:=RE (h:=h);unfold I8 at hn;rw [if_pos hb.1] at hn;have hp:=P5 (q::BX h);rw [List.length_cons] at hp;rw [List.length_append,LB];omega
 .simp
end Lv.P
