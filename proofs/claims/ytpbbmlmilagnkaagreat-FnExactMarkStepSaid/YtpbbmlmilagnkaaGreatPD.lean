/- Plain laws about what the program computes. -/
import Derived.Test.YtpbbmlmilagnkaaGreatPB
import Derived.Test.YtpbbmlmilagnkaaGreatPC
set_option linter.unusedVariables false
set_option linter.unusedSimpArgs false
set_option linter.unusedSectionVars false
open Bool renaming not_eq_true->Df
open Int renaming toNat_natCast->AU
open List renaming flatMap_cons->CP,length_append->AO,length_cons->AM,length_nil->AQ,length_singleton->BM,map_cons->AF,set_set->Fe,sum_cons->Iw
open Nat renaming le_refl->AT,lt_or_ge->AY,mul_add->J1
namespace Lv.P
open Go (IntKind BinOp UnOp)
theorem Jc{α β γ:Type}{l:List α}(f:α->List β)(J:List β->AA γ){F:(List β×Int->AA γ)->List β×Int->AA γ}(hl:l.length<=1048576)(m:Nat)(hm:∀x,(f x).length<=m){v0:List β}
 (step:∀L i (h:i<l.length) v,v.length<=v0.length+m*i->F L (v,(i:Int))=L (v++f l[i],w64 ((i:Int)+1))) (stop:∀L v,F L (v,(l.length:Int))=J v):Aw F big (v0,0)=J (v0++l.flatMap f):=by
 refine(Da (n:=l.length) (fun i (v:List β)=>(v,(i:Int))) (fun i v=>v=v0++(l.take i).flatMap f/\v.length<=v0.length+m*i) (fun i v=>J (v0++l.flatMap f)) (by omega) ?_ ⟨by simp,by simp⟩);rintro L i v ⟨hv,hb⟩ hi ih;rcases AY i l.length with h|h
 .rw[step L i h v hb,Bc h (by omega)]
  grind[List.take_add_one]
 grind
theorem ED{α β:Type}(f:α->List β){m:Nat}(hm:∀x,(f x).length<=m):∀l:List α,(l.flatMap f).length<=m*l.length
 | []=>by simp|x::l=>by
  have:=ED f hm l;have:=hm x;rw[CP,AO,AM,J1];omega
def H4(r:AW):List Int:=[r.CJ,r.Room,r.BW,r.Bn,r.Bi,r.Rest,r.CI,r.Ch]++r.Ae
def JZ(p:AP):List Int:=[p.Id,p.Bf,w64 (p.Ci+1),p.BW,p.DG,p.Since,p.A4,p.State,p.C4,p.EP]
def Fy(h:AH):List Int:=
 (([((H4 h.AR).length:Int)]++H4 h.AR++[h.Now,h.A4,(h.AK.length:Int)]++h.AK.flatMap JZ)++h.Ap.flatMap (fun c=>[c.Ae.EV]))++[(h.BO.length:Int)]++h.BO++h.BP.flatMap (fun x=>[w64 (x+1)])
noncomputable def AFP(h:AH):List Int:=if FN h=true then Fy h else []
theorem Js{h:AH}(hb:FN h=true):EF h.AR=true/\(0<=h.Now/\h.Now<=1000000)/\(1<=h.A4/\h.A4<=1000001)/\h.AK.length<=40/\h.Ap.length=h.AR.Ae.length/\KI h=true/\IQ h.BO h.Ap.length=true/\M4 h.BP h.Ap.length=true/\(h.BP.length:Int)=h.AR.Ch/\Kc h=true:=by
 grind[FN,Du]
theorem Oa{h:AH}(hh:CU h)(hb:FN h=true):(Fy h).length<=2000000:=by
 have hk:=Js hb;have hr:=Ce hk.1;have h1:=ED JZ (m:=10) (fun _=>AT _) h.AK;have h2:=ED (fun c:Aa=>[c.Ae.EV]) (m:=1) (fun _=>AT _) h.Ap;have h3:=ED (fun x:Int=>[w64 (x+1)]) (m:=1) (fun _=>AT _) h.BP;have h4:=hh.todo;unfold Fy H4;simp only[AO,AM,AQ];omega
theorem ZE{r:AW}(hr:r.Ae.length<=1048576)(hb:EF r=true):xw r=some (H4 r):=by
 unfold xw;rw[H7 (by omega),AE,hb,BB,BL,CG (by simp only[AM,AQ];unfold lim;omega)];rfl
theorem Nw{r:AW}(hr:r.Ae.length<=1048576)(hb:EF r=true):aO r=some (H4 r):=by
 unfold aO;rw[GG (by omega),AE,hb,BB,BL,CG (by simp only[AM,AQ];unfold lim;omega)];rfl
theorem L0(r:AW):(H4 r).length=8+r.Ae.length:=by unfold H4;simp only[AO,AM,AQ]
theorem cM{h:AH}(hh:CU h)(hb:FN h=true):kU h=some (Fy h):=by
 have hlim:lim=268435456:=rfl;have hk:=Js hb;have hr:=Ce hk.1;have h1:=hh.Db;have h2:=hh.H3;have h3:=hh.todo;have h4:=hh.K5;have e4:∀v:List Int,v.length<=5000000->Qc h v=some (v++[(h.BO.length:Int)]++h.BO++h.BP.flatMap (fun x=>[w64 (x+1)])):=by
  intro v hv;unfold Qc;rw[CG (by rw[K6];omega),CG (by rw[AO,BM];omega)];refine Jc (l:=h.BP) (fun x=>[w64 (x+1)]) some h4 1 (fun _=>AT _) ?_ ?_
  .grind[Vt,BL,BK,AE,CG]
  .intro L v';unfold Vt kV;dsimp only;rw[Cr,BN,AS]
 have e2:∀v:List Int,v.length<=3000000->Qb h v=some ((v++h.Ap.flatMap (fun c=>[c.Ae.EV]))++[(h.BO.length:Int)]++h.BO++h.BP.flatMap (fun x=>[w64 (x+1)])):=by
  intro v hv;have hc:=ED (fun c:Aa=>[c.Ae.EV]) (m:=1) (fun _=>AT _) h.Ap;unfold Qb;rw[Jc (l:=h.Ap) (fun c=>[c.Ae.EV]) (Qc h) h2 1 (fun _=>AT _) ?_ ?_,e4 _ (by rw[AO];omega)]
  .grind[Vr,BL,BK,AE,CG]
  .intro L v';unfold Vr;dsimp only;rw[Cr,BN,AS]
 have hc:=ED JZ (m:=10) (fun _=>AT _) h.AK;have hn:=L0 h.AR;have hs:=hh.FJ;unfold kU;rw[Jl hh,AE,hb,BB,BL,ZE hh.FJ hk.1,AE,CG (by rw[BM];omega),CG (by simp only[AO,BM,AM,AQ];omega)];rw[Jc (l:=h.AK) JZ (Qb h) h1 10 (fun _=>AT _) ?_ ?_,e2 _ (by simp only[AO,BM,AM,AQ];omega)]
 .rfl
 .intro L i hi v' hv';simp only[AO,BM,AM,AQ]at hv';unfold Vq;dsimp only;rw[Bq hi,BL,BK hi,AE,CG (by simp only[AM,AQ];omega)];rfl
 grind[Vq,BN,AS]
theorem AA6{h:AH}(hh:CU h)(hb:FN h=true):yX h=some (Fy h):=by
 have hlim:lim=268435456:=rfl;have hk:=Js hb;have hr:=Ce hk.1;have h1:=hh.Db;have h2:=hh.H3;have h3:=hh.todo;have h4:=hh.K5;have e4:∀v:List Int,v.length<=5000000->Qn h v=some (v++[(h.BO.length:Int)]++h.BO++h.BP.flatMap (fun x=>[w64 (x+1)])):=by
  intro v hv;unfold Qn;rw[CG (by rw[K6];omega),CG (by rw[AO,BM];omega)];refine Jc (l:=h.BP) (fun x=>[w64 (x+1)]) some h4 1 (fun _=>AT _) ?_ ?_
  .grind[WW,BL,BK,AE,CG]
  .intro L v';unfold WW lf;dsimp only;rw[Cr,BN,AS]
 have e2:∀v:List Int,v.length<=3000000->Qm h v=some ((v++h.Ap.flatMap (fun c=>[c.Ae.EV]))++[(h.BO.length:Int)]++h.BO++h.BP.flatMap (fun x=>[w64 (x+1)])):=by
  intro v hv;have hc:=ED (fun c:Aa=>[c.Ae.EV]) (m:=1) (fun _=>AT _) h.Ap;unfold Qm;rw[Jc (l:=h.Ap) (fun c=>[c.Ae.EV]) (Qn h) h2 1 (fun _=>AT _) ?_ ?_,e4 _ (by rw[AO];omega)]
  .grind[WV,BL,BK,AE,CG]
  .intro L v';unfold WV;dsimp only;rw[Cr,BN,AS]
 have hc:=ED JZ (m:=10) (fun _=>AT _) h.AK;have hn:=L0 h.AR;have hs:=hh.FJ;unfold yX;rw[G1 hh,AE,hb,BB,BL,Nw hh.FJ hk.1,AE,CG (by rw[BM];omega),CG (by simp only[AO,BM,AM,AQ];omega)];rw[Jc (l:=h.AK) JZ (Qm h) h1 10 (fun _=>AT _) ?_ ?_,e2 _ (by simp only[AO,BM,AM,AQ];omega)]
 .rfl
 .intro L i hi v' hv';simp only[AO,BM,AM,AQ]at hv';unfold WU;dsimp only;rw[Bq hi,BL,BK hi,AE,CG (by simp only[AM,AQ];omega)];rfl
 grind[WU,BN,AS]
theorem uW{h:AH}(hh:CU h)(hb:FN h=true):lQ h=some (Fy h):=by
 have hlim:lim=268435456:=rfl;have hk:=Js hb;have hr:=Ce hk.1;have h1:=hh.Db;have h2:=hh.H3;have h3:=hh.todo;have h4:=hh.K5;have e4:∀v:List Int,v.length<=5000000->Qk h v=some (v++[(h.BO.length:Int)]++h.BO++h.BP.flatMap (fun x=>[w64 (x+1)])):=by
  intro v hv;unfold Qk;rw[CG (by rw[K6];omega),CG (by rw[AO,BM];omega)];refine Jc (l:=h.BP) (fun x=>[w64 (x+1)]) some h4 1 (fun _=>AT _) ?_ ?_
  .grind[WO,BL,BK,AE,CG]
  .intro L v';unfold WO lR;dsimp only;rw[Cr,BN,AS]
 have e2:∀v:List Int,v.length<=3000000->Qj h v=some ((v++h.Ap.flatMap (fun c=>[c.Ae.EV]))++[(h.BO.length:Int)]++h.BO++h.BP.flatMap (fun x=>[w64 (x+1)])):=by
  intro v hv;have hc:=ED (fun c:Aa=>[c.Ae.EV]) (m:=1) (fun _=>AT _) h.Ap;unfold Qj;rw[Jc (l:=h.Ap) (fun c=>[c.Ae.EV]) (Qk h) h2 1 (fun _=>AT _) ?_ ?_,e4 _ (by rw[AO];omega)]
  .grind[WN,BL,BK,AE,CG]
  .intro L v';unfold WN;dsimp only;rw[Cr,BN,AS]
 have hc:=ED JZ (m:=10) (fun _=>AT _) h.AK;have hn:=L0 h.AR;have hs:=hh.FJ;unfold lQ;rw[G1 hh,AE,hb,BB,BL,Nw hh.FJ hk.1,AE,CG (by rw[BM];omega),CG (by simp only[AO,BM,AM,AQ];omega)];rw[Jc (l:=h.AK) JZ (Qj h) h1 10 (fun _=>AT _) ?_ ?_,e2 _ (by simp only[AO,BM,AM,AQ];omega)]
 .rfl
 .intro L i hi v' hv';simp only[AO,BM,AM,AQ]at hv';unfold WM;dsimp only;rw[Bq hi,BL,BK hi,AE,CG (by simp only[AM,AQ];omega)];rfl
 grind[WM,BN,AS]
noncomputable def M7(h:AH)(q:Int):List UInt8:=if FN h=true/\inB q 0 1000000=true then four ((Hv (pL (q::Fy h)):Nat):Int)++pL (q::Fy h) else []
theorem Ra:∀l:List Int,(pL l).length<=5*l.length
 | []=>by simp[pL]|x::l=>by
  have:=Ra l;have:=Ml x;unfold pL at *;rw[CP,AO,AM];omega
theorem O6{h:AH}(hh:CU h)(q:Int):lP h q=some (M7 h q):=by
 have hlim:lim=268435456:=rfl;have hslim:LA=4611686018427387904:=rfl;unfold lP M7;rw[Jl hh,AE,BB,AS,Gt,AE,AS];by_cases hb:FN h=true
 .have hn:=Oa hh hb;have hp:=Ra (q::Fy h);rw[AM]at hp;rw[hb,BL];unfold WL;rw[BB,cM hh hb,AE,CG (by rw[BM];omega),List.singleton_append,iO (by rw[AM];omega),AE,pM (by omega),AE];unfold lO;rw[AE];cases hq:inB q 0 1000000 with
  |false=>rfl|true=>
   rw[BL,CG (by simp only[AM,AQ];omega),if_pos ⟨rfl,rfl⟩];rfl
 .rw[if_neg (fun g=>hb g.1)];rw[Df]at hb;rw[hb,BN];rfl
theorem O0{h:AH}(hh:CU h)(q:Int):lZ h q=some (M7 h q):=by
 have hslim:LA=4611686018427387904:=rfl;unfold lZ M7 orE;by_cases hb:FN h=true
 .have hn:=Oa hh hb;have hp:=Ra (q::Fy h);rw[AM]at hp;have hpn:=Ml q;have hpl:=Ra (Fy h);have he:(Fy h).isEmpty=false:=by
   unfold Fy;simp
  have hcc:pN q++pL (Fy h)=pL (q::Fy h):=rfl;have e:aP h q=some (if inB q 0 1000000=true then four ((Hv (pL (q::Fy h)):Nat):Int)++pL (q::Fy h) else []):=by
   unfold aP;rw[uW hh hb,AE,CG he,Gj,AE,BB];cases hq:inB q 0 1000000 with
   |false=>rfl|true=>
    rw[BL,Hm,AE,fV (by omega),AE,CG (by omega),hcc,nc (by omega),AE,CG (by simp only[AM,AQ];omega)];rfl
  grind
 .rw[if_neg (fun g=>hb g.1)];rw[Df]at hb;have e:aP h q=none:=by
   unfold aP lQ;rw[G1 hh,AE,hb,BB,BN,AH0]
  rw[e];dsimp only;unfold yW ADq;rw[G1 hh,AE,hb,BB,BN,AE]
inductive FT{α:Type}(Q:Int->α->Int->Prop):Int->List α->Int->Prop|nil(k:Int):FT Q k [] k|cons {k k1 k2:Int} {x:α} {l:List α} (h:Q k x k1) (t:FT Q k1 l k2):FT Q k (x::l) k2
section
variable{α:Type}{Q:Int->α->Int->Prop}
theorem FT.snoc{k k1 k2:Int}{l:List α}{x:α}(h:FT Q k l k1)(hq:Q k1 x k2):FT Q k (l++[x]) k2:=by
 induction h with
 |nil k=>exact .cons hq (.nil _)|cons h t ih=>exact .cons h (ih hq)
theorem AHM{l:List α}(cst:α->Nat){i:Nat}(h:i<l.length):((l.take (i+1)).map cst).sum=((l.take i).map cst).sum+cst l[i]:=by
 grind[List.take_add_one]
theorem ALK{l:List α}(cst:α->Nat)(i:Nat):((l.take i).map cst).sum<=(l.map cst).sum:=by
 grind[List.take_append_drop]
theorem Jy(c:Nat):∀l:List α,(l.map (fun _=>c)).sum=c*l.length| []=>by simp|x::l=>by rw[AF,Iw,Jy c l,AM,J1];omega
theorem ACz{l:List α}{cst:α->Nat}{m:Nat}(h:∀x∈l,cst x<=m):(l.map cst).sum<=m*l.length:=by
 induction l with
 |nil=>simp|cons x l ih=>
  grind[Nat.mul_add]
theorem KG{l:List α}(cst:α->Nat)(M:Int){F:(List α×Int×Int->AA (Int×List α))->List α×Int×Int->AA (Int×List α)}(hl:l.length<=1048576){k0:Int}(h0:0<=k0)(hb:k0+((l.map cst).sum:Nat)<=M)
 (step:∀L (v:List α) (k:Int) (i:Nat) (h:i<l.length),v.length=l.length->v[i]?=some l[i]->0<=k->k+cst l[i]<=M ->
  ∃k1 x',F L (v,k,(i:Int))=L (v.set i x',k1,w64 ((i:Int)+1))/\Q k x' k1/\k<=k1/\k1<=k+cst l[i])
 (stop:∀L v k,v.length=l.length->F L (v,k,(l.length:Int))=some (k,v)) :
 ∃r,Aw F big (l,k0,0)=some r/\(FT Q k0 r.2 r.1/\r.2.length=l.length/\k0<=r.1/\r.1<=k0+((l.map cst).sum:Nat)):=by
 refine Ts (n:=l.length) (fun i (v:List α×Int)=>(v.1,v.2,(i:Int))) (fun i v=>v.1.length=l.length/\v.1.drop i=l.drop i/\FT Q k0 (v.1.take i) v.2/\k0<=v.2/\v.2<=k0+(((l.take i).map cst).sum:Nat)) _ (by omega) ?_ (v:=(l,k0)) ⟨rfl,rfl,by simpa using FT.nil k0,Int.le_refl _,by simp⟩;rintro L i ⟨v,k⟩ ⟨h1,h2,h3,h4,h5⟩ hi ih;dsimp only at h1 h2 h3 h4 h5 ih ⊢;rcases AY i l.length with h|h
 .have hv:i<v.length:=by omega
  have e:v[i]=l[i]:=by
   grind[Dt]
  have hs:=AHM cst h;have hs2:=ALK (l:=l) cst (i+1);obtain⟨k1,x',g1,g2,g3,g4⟩:=step L v k i h h1 (by rw[List.getElem?_eq_getElem hv,e]) (by omega) (by omega);rw[g1,Bc h (by omega)];refine ih (v.set i x',k1) ⟨by simp[h1],?_,?_,by dsimp only;omega,by dsimp only;omega⟩ h
  .dsimp only;rw[List.drop_set_of_lt (by omega)];have:=congrArg (List.drop 1) h2;simpa[List.drop_drop,Nat.add_comm] using this
  .dsimp only;have:(v.set i x').take (i+1)=v.take i++[x']:=by
    rw[List.take_add_one,List.take_set_of_le (by omega)];simp[hv]
   rw[this];exact h3.snoc g2
 .obtain rfl:i=l.length:=by omega
  rw[stop L v k h1];rw[List.take_of_length_le (by omega)]at h3;rw[List.take_length]at h5;exact⟨_,rfl,h3,h1,h4,h5⟩
theorem KD{l:List α}{k k':Int}(hc:FT Q k l k'){G:(Int×Int->AA Int)->Int×Int->AA Int}(hl:l.length<=1048576)
 (step:∀L i (h:i<l.length) k k1,Q k l[i] k1->G L (k,(i:Int))=L (k1,w64 ((i:Int)+1))) (stop:∀L k,G L (k,(l.length:Int))=some k):Aw G big (k,0)=some k':=by
 refine(Da (n:=l.length) (fun i (k:Int)=>(k,(i:Int))) (fun i k=>FT Q k (l.drop i) k') (fun _ _=>some k') (by omega) ?_ (by simpa using hc));intro L i k hk hi ih;rcases AY i l.length with h|h
 .rw[Dt h]at hk;cases hk with
  |cons hq ht=>
   rw[step L i h _ _ hq,Bc h (by omega)];exact ih _ ht h
 .obtain rfl:i=l.length:=by omega
  rw[List.drop_length]at hk;cases hk;exact stop _ _
end
theorem QB{α:Type}{v:List α}{i:Nat}(h:i<v.length)(a:α):at? (v.set i a) (i:Int)=some a:=by rw[Fg];simp[h]
def AK8(k:Int)(x:Int)(k1:Int):Prop:=x=k/\k1=k+1/\0<=k/\k<=2 ^ 60
theorem YR{l:List Int}(hl:l.length<=1048576){k:Int}(h0:0<=k)(hb:k<=2 ^ 59) :
 ∃r,aQ l k=some r/\(FT AK8 k r.2 r.1/\r.2.length=l.length/\k<=r.1/\r.1<=k+1*l.length):=by
 have hs:=Jy 1 l;unfold aQ;have key:=KG (l:=l) (Q:=AK8) (F:=Qo) (fun _=>1) (2 ^ 60) hl h0 (by rw[hs];omega) ?_ ?_
 .grind
 .intro L v k i h hv hx k0 kb;have hi:i<v.length:=by omega
  have ha:at? v (i:Int)=some l[i]:=by rw[Fg];exact hx
  have e1:w64 (k+1)=k+1:=Ao (by omega) (by omega);refine⟨k+1,k,?_,⟨rfl,rfl,k0,by omega⟩,by omega,by omega⟩;unfold Qo lg WX
  grind[BL,AE,AS]
 grind[Qo,WX,BN,AS]
theorem Xz{l:List Int}(hl:l.length<=1048576){k k':Int}(hc:FT AK8 k l k'):aU l k=some k':=by
 unfold aU;refine KD hc hl ?_ ?_
 .rintro L i h k k1 ⟨hx,rfl,k0,kb⟩
  grind[Ao,Wa,BL,BK,AE,BN]
 grind[Wa,mL,BN,AS]
def vT(k:Int)(x:AP)(k1:Int):Prop:=x=⟨k,k+1,k+1+1,k+1+1+1,k+1+1+1+1,k+1+1+1+1+1,k+1+1+1+1+1+1,k+1+1+1+1+1+1+1,k+1+1+1+1+1+1+1+1,k+1+1+1+1+1+1+1+1+1⟩/\k1=k+1+1+1+1+1+1+1+1+1+1/\0<=k/\k<=2 ^ 60
theorem ub{l:List AP}(hl:l.length<=1048576){k:Int}(h0:0<=k)(hb:k<=2 ^ 59) :
 ∃r,yY l k=some r/\(FT vT k r.2 r.1/\r.2.length=l.length/\k<=r.1/\r.1<=k+10*l.length):=by
 have hs:=Jy 10 l;unfold yY;have key:=KG (l:=l) (Q:=vT) (F:=Qp) (fun _=>10) (2 ^ 60) hl h0 (by rw[hs];omega) ?_ ?_
 .obtain⟨r,g1,g2,g3,g4,g5⟩:=key;exact⟨r,g1,g2,g3,g4,by rw[hs]at g5;omega⟩
 .intro L v k i h hv hx k0 kb;have hi:i<v.length:=by omega
  have ha:at? v (i:Int)=some l[i]:=by rw[Fg];exact hx
  have e1:w64 (k+1)=k+1:=Ao (by omega) (by omega);have e2:w64 (k+1+1)=k+1+1:=Ao (by omega) (by omega);have e3:w64 (k+1+1+1)=k+1+1+1:=Ao (by omega) (by omega);have e4:w64 (k+1+1+1+1)=k+1+1+1+1:=Ao (by omega) (by omega);have e5:w64 (k+1+1+1+1+1)=k+1+1+1+1+1:=Ao (by omega) (by omega);have e6:w64 (k+1+1+1+1+1+1)=k+1+1+1+1+1+1:=Ao (by omega) (by omega);have e7:w64 (k+1+1+1+1+1+1+1)=k+1+1+1+1+1+1+1:=Ao (by omega) (by omega);have e8:w64 (k+1+1+1+1+1+1+1+1)=k+1+1+1+1+1+1+1+1:=Ao (by omega) (by omega);have e9:w64 (k+1+1+1+1+1+1+1+1+1)=k+1+1+1+1+1+1+1+1+1:=Ao (by omega) (by omega);have e10:w64 (k+1+1+1+1+1+1+1+1+1+1)=k+1+1+1+1+1+1+1+1+1+1:=Ao (by omega) (by omega);refine⟨k+1+1+1+1+1+1+1+1+1+1,⟨k,k+1,k+1+1,k+1+1+1,k+1+1+1+1,k+1+1+1+1+1,k+1+1+1+1+1+1,k+1+1+1+1+1+1+1,k+1+1+1+1+1+1+1+1,k+1+1+1+1+1+1+1+1+1⟩,?_,⟨rfl,rfl,k0,by omega⟩,by omega,by omega⟩;unfold Qp lh lj lk ll ln lq lr lu aR aS SJ;dsimp only;rw[Bq hi,BL];simp only[ha,AE,AS,AU,QB hi,Fe,e1,e2,e3,e4,e5,e6,e7,e8,e9,e10]
 .intro L v k hv;unfold Qp SJ;dsimp only;rw[hv,Cr,BN,AS]
theorem uU{l:List AP}(hl:l.length<=1048576){k k':Int}(hc:FT vT k l k'):yQ l k=some k':=by
 unfold yQ;refine KD hc hl ?_ ?_
 .rintro L i h k k1 ⟨hx,rfl,k0,kb⟩;have e1:w64 (k+1)=k+1:=Ao (by omega) (by omega);have e2:w64 (k+1+1)=k+1+1:=Ao (by omega) (by omega);have e3:w64 (k+1+1+1)=k+1+1+1:=Ao (by omega) (by omega);have e4:w64 (k+1+1+1+1)=k+1+1+1+1:=Ao (by omega) (by omega);have e5:w64 (k+1+1+1+1+1)=k+1+1+1+1+1:=Ao (by omega) (by omega);have e6:w64 (k+1+1+1+1+1+1)=k+1+1+1+1+1+1:=Ao (by omega) (by omega);have e7:w64 (k+1+1+1+1+1+1+1)=k+1+1+1+1+1+1+1:=Ao (by omega) (by omega);have e8:w64 (k+1+1+1+1+1+1+1+1)=k+1+1+1+1+1+1+1+1:=Ao (by omega) (by omega);have e9:w64 (k+1+1+1+1+1+1+1+1+1)=k+1+1+1+1+1+1+1+1+1:=Ao (by omega) (by omega);have e10:w64 (k+1+1+1+1+1+1+1+1+1+1)=k+1+1+1+1+1+1+1+1+1+1:=Ao (by omega) (by omega);unfold WC;dsimp only;rw[Bq h,BL];simp only[BK h,AE,hx,ne_self,BN,e1,e2,e3,e4,e5,e6,e7,e8,e9,e10]
 .intro L k;unfold WC lG;dsimp only;rw[Cr,BN,AS]
def gi(k:Int)(x:Ac)(k1:Int):Prop:=x=⟨k,k+1,k+1+1,k+1+1+1⟩/\k1=k+1+1+1+1/\0<=k/\k<=2 ^ 60
theorem uZ{l:List Ac}(hl:l.length<=1048576){k:Int}(h0:0<=k)(hb:k<=2 ^ 59) :
 ∃r,yZ l k=some r/\(FT gi k r.2 r.1/\r.2.length=l.length/\k<=r.1/\r.1<=k+4*l.length):=by
 have hs:=Jy 4 l;unfold yZ;have key:=KG (l:=l) (Q:=gi) (F:=Qq) (fun _=>4) (2 ^ 60) hl h0 (by rw[hs];omega) ?_ ?_
 .grind
 .intro L v k i h hv hx k0 kb;have hi:i<v.length:=by omega
  have ha:at? v (i:Int)=some l[i]:=by rw[Fg];exact hx
  have e1:w64 (k+1)=k+1:=Ao (by omega) (by omega);have e2:w64 (k+1+1)=k+1+1:=Ao (by omega) (by omega);have e3:w64 (k+1+1+1)=k+1+1+1:=Ao (by omega) (by omega);have e4:w64 (k+1+1+1+1)=k+1+1+1+1:=Ao (by omega) (by omega);refine⟨k+1+1+1+1,⟨k,k+1,k+1+1,k+1+1+1⟩,?_,⟨rfl,rfl,k0,by omega⟩,by omega,by omega⟩;unfold Qq lz l7 l9 mA WY;dsimp only;rw[Bq hi,BL];simp only[ha,AE,AS,AU,QB hi,Fe,e1,e2,e3,e4]
 grind[Qq,WY,BN,AS]
theorem uS{l:List Ac}(hl:l.length<=1048576){k k':Int}(hc:FT gi k l k'):yR l k=some k':=by
 unfold yR;refine KD hc hl ?_ ?_
 .rintro L i h k k1 ⟨hx,rfl,k0,kb⟩
  grind[Ao,WD,BL,BK,AE,BN]
 grind[WD,lH,BN,AS]
def AI7(k:Int)(x:Ax)(k1:Int):Prop:=x=⟨k,k+1⟩/\k1=k+1+1/\0<=k/\k<=2 ^ 60
theorem AFH{l:List Ax}(hl:l.length<=1048576){k:Int}(h0:0<=k)(hb:k<=2 ^ 59) :
 ∃r,ya l k=some r/\(FT AI7 k r.2 r.1/\r.2.length=l.length/\k<=r.1/\r.1<=k+2*l.length):=by
 have hs:=Jy 2 l;unfold ya;have key:=KG (l:=l) (Q:=AI7) (F:=Qr) (fun _=>2) (2 ^ 60) hl h0 (by rw[hs];omega) ?_ ?_
 .grind
 .intro L v k i h hv hx k0 kb;have hi:i<v.length:=by omega
  have ha:at? v (i:Int)=some l[i]:=by rw[Fg];exact hx
  have e1:w64 (k+1)=k+1:=Ao (by omega) (by omega);have e2:w64 (k+1+1)=k+1+1:=Ao (by omega) (by omega);refine⟨k+1+1,⟨k,k+1⟩,?_,⟨rfl,rfl,k0,by omega⟩,by omega,by omega⟩;unfold Qr mB mC WZ
  grind[BL,AE,AS,QB,List.set_set]
 grind[Qr,WZ,BN,AS]
theorem AEw{l:List Ax}(hl:l.length<=1048576){k k':Int}(hc:FT AI7 k l k'):yS l k=some k':=by
 unfold yS;refine KD hc hl ?_ ?_
 .rintro L i h k k1 ⟨hx,rfl,k0,kb⟩
  grind[Ao,WE,BL,BK,AE,BN]
 grind[WE,lI,BN,AS]
def AK9(k:Int)(x:Cb)(k1:Int):Prop:=x=⟨k,k+1,k+1+1,k+1+1+1,k+1+1+1+1,k+1+1+1+1+1⟩/\k1=k+1+1+1+1+1+1/\0<=k/\k<=2 ^ 60
theorem AFI{l:List Cb}(hl:l.length<=1048576){k:Int}(h0:0<=k)(hb:k<=2 ^ 59) :
 ∃r,yP l k=some r/\(FT AK9 k r.2 r.1/\r.2.length=l.length/\k<=r.1/\r.1<=k+6*l.length):=by
 have hs:=Jy 6 l;unfold yP;have key:=KG (l:=l) (Q:=AK9) (F:=Qi) (fun _=>6) (2 ^ 60) hl h0 (by rw[hs];omega) ?_ ?_
 .grind
 .intro L v k i h hv hx k0 kb;have hi:i<v.length:=by omega
  have ha:at? v (i:Int)=some l[i]:=by rw[Fg];exact hx
  have e1:w64 (k+1)=k+1:=Ao (by omega) (by omega);have e2:w64 (k+1+1)=k+1+1:=Ao (by omega) (by omega);have e3:w64 (k+1+1+1)=k+1+1+1:=Ao (by omega) (by omega);have e4:w64 (k+1+1+1+1)=k+1+1+1+1:=Ao (by omega) (by omega);have e5:w64 (k+1+1+1+1+1)=k+1+1+1+1+1:=Ao (by omega) (by omega);have e6:w64 (k+1+1+1+1+1+1)=k+1+1+1+1+1+1:=Ao (by omega) (by omega);refine⟨k+1+1+1+1+1+1,⟨k,k+1,k+1+1,k+1+1+1,k+1+1+1+1,k+1+1+1+1+1⟩,?_,⟨rfl,rfl,k0,by omega⟩,by omega,by omega⟩;unfold Qi lA lB lC lD lE lF WA;dsimp only;rw[Bq hi,BL];simp only[ha,AE,AS,AU,QB hi,Fe,e1,e2,e3,e4,e5,e6]
 grind[Qi,WA,BN,AS]
theorem AEx{l:List Cb}(hl:l.length<=1048576){k k':Int}(hc:FT AK9 k l k'):yp l k=some k':=by
 unfold yp;refine KD hc hl ?_ ?_
 .rintro L i h k k1 ⟨hx,rfl,k0,kb⟩;have e1:w64 (k+1)=k+1:=Ao (by omega) (by omega);have e2:w64 (k+1+1)=k+1+1:=Ao (by omega) (by omega);have e3:w64 (k+1+1+1)=k+1+1+1:=Ao (by omega) (by omega);have e4:w64 (k+1+1+1+1)=k+1+1+1+1:=Ao (by omega) (by omega);have e5:w64 (k+1+1+1+1+1)=k+1+1+1+1+1:=Ao (by omega) (by omega);have e6:w64 (k+1+1+1+1+1+1)=k+1+1+1+1+1+1:=Ao (by omega) (by omega);unfold Wn
  grind[BL,BK,AE,BN]
 grind[Wn,mX,BN,AS]
theorem AKZ{α:Type}{v:List α}{i:Nat}(h:i<v.length)(a:α):(v.set i a)[i]?=some a:=by simp[h]
def AAA(k:Int)(s:List Ax)(k1:Int):Prop:=s.length<=1048576/\FT AI7 k s k1/\0<=k/\0<=k1
theorem nS:∀l:List (List Ax),(l.map (fun s=>2*s.length)).sum=2*l.flatten.length| []=>rfl|s::l=>by rw[AF,Iw,nS l,List.flatten_cons,AO];omega
theorem uc{w:Aq}(hw:DE w){k:Int}(h0:0<=k)(hb:k<=2 ^ 58) :
 ∃r,yb w.Ah k=some r/\(FT AAA k r.2 r.1/\r.2.length=w.Ah.length/\k<=r.1/\r.1<=k+2*w.Ah.flatten.length):=by
 have hs:=nS w.Ah;have h1:=hw.1;have h2:=hw.2;unfold yb;have key:=KG (l:=w.Ah) (Q:=AAA) (F:=Qs) (fun s=>2*s.length) (2 ^ 59) h1 h0 (by rw[hs];omega) ?_ ?_
 .grind
 .intro L v k i h hv hx k0 kb;have hi:i<v.length:=by omega
  have ha:at? v (i:Int)=some w.Ah[i]:=by rw[Fg];exact hx
  have hl:=Im h;obtain⟨r,e,c1,c2,c3,c4⟩:=AFH (l:=w.Ah[i]) (by omega) k0 (by omega);refine⟨r.1,r.2,?_,⟨by omega,c1,k0,by omega⟩,c3,by push_cast;omega⟩
  grind[Qs,BL,AE,CG]
 grind[Qs,mD,BN,AS]
theorem uV{l:List (List Ax)}(hl:l.length<=1048576){k k':Int}(hc:FT AAA k l k'):yT l k=some k':=by
 unfold yT;refine KD hc hl ?_ ?_
 .rintro L i h k k1 ⟨hs,c,k0,k10⟩;unfold WG;dsimp only;rw[Bq h,BL,BK h,AE,AEw hs c,AE,BD,if_neg (by omega)]
 grind[WG,lJ,BN,AS]
def vS(k:Int)(c:Aa)(k1:Int):Prop:=
 c.Ae=⟨k,k+1,k+1+1,k+1+1+1,k+1+1+1+1⟩/\(0<=k/\k<=2 ^ 60)/\c.Row.length<=1048576/\c.DW.Ah.length<=1048576/\0<=k1/\∃a,FT gi (k+1+1+1+1+1) c.Row a/\0<=a/\FT AAA a c.DW.Ah k1
def AIC(c:Aa):Nat:=5+4*c.Row.length+2*c.DW.Ah.flatten.length
theorem n8{l:List Aa}(hl:l.length<=1048576)(hf:∀c∈l,Dl c){k:Int}(h0:0<=k)(hb:k<=2 ^ 56) :
 ∃r,yc l k=some r/\(FT vS k r.2 r.1/\r.2.length=l.length/\k<=r.1/\r.1<=k+2 ^ 50):=by
 have hs:=ACz (l:=l) (cst:=AIC) (m:=6291461) fun c hc=>by
  have:=hf c hc;have h1:=this.1;have h2:=this.2.2;unfold AIC;omega
 unfold yc;have key:=KG (l:=l) (Q:=vS) (F:=Qt) AIC (2 ^ 57) hl h0 (by omega) ?_ ?_
 .grind
 .intro L v k i h hv hx k0 kb;have hi:i<v.length:=by omega
  have ha:at? v (i:Int)=some l[i]:=by rw[Fg];exact hx
  have hc:=hf _ (List.getElem_mem h);have hr:=hc.1;have hw1:=hc.2.1;have hw2:=hc.2.2;have hcst:AIC l[i]=5+4*l[i].Row.length+2*l[i].DW.Ah.flatten.length:=rfl;have e1:w64 (k+1)=k+1:=Ao (by omega) (by omega);have e2:w64 (k+1+1)=k+1+1:=Ao (by omega) (by omega);have e3:w64 (k+1+1+1)=k+1+1+1:=Ao (by omega) (by omega);have e4:w64 (k+1+1+1+1)=k+1+1+1+1:=Ao (by omega) (by omega);have e5:w64 (k+1+1+1+1+1)=k+1+1+1+1+1:=Ao (by omega) (by omega);obtain⟨a,ea,a1,a2,a3,a4⟩:=uZ (l:=l[i].Row) hr (k:=k+1+1+1+1+1) (by omega) (by omega);obtain⟨b,eb,b1,b2,b3,b4⟩:=uc (w:=l[i].DW) hc.2 (k:=a.1) (by omega) (by omega);refine⟨b.1,⟨⟨k,k+1,k+1+1,k+1+1+1,k+1+1+1+1⟩,a.2,⟨b.2⟩⟩,?_,⟨rfl,⟨k0,by omega⟩,by dsimp only;omega,by dsimp only;omega,by omega,a.1,a1,by omega,b1⟩,by omega,by omega⟩;unfold Qt mE mF mG mH mI mJ;dsimp only;rw[Bq hi,BL];simp only[ha,AE,AS,AU,QB hi,Fe,e1,e2,e3,e4,e5,ea,eb,AKZ hi];rw[CG trivial,CG trivial]
 grind[Qt,mK,BN,AS]
theorem nY{l:List Aa}(hl:l.length<=1048576){k k':Int}(hc:FT vS k l k'):yn l k=some k':=by
 unfold yn;refine KD hc hl ?_ ?_
 .rintro L i h k k1 ⟨hs,⟨k0,kb⟩,hr,hw,k10,a,ca,a0,cb⟩;have e1:w64 (k+1)=k+1:=Ao (by omega) (by omega);have e2:w64 (k+1+1)=k+1+1:=Ao (by omega) (by omega);have e3:w64 (k+1+1+1)=k+1+1+1:=Ao (by omega) (by omega);have e4:w64 (k+1+1+1+1)=k+1+1+1+1:=Ao (by omega) (by omega);have e5:w64 (k+1+1+1+1+1)=k+1+1+1+1+1:=Ao (by omega) (by omega);have ha:decide (a<0)=false:=by rw[decide_eq_false_iff_not];omega
  have hk:decide (k1<0)=false:=by rw[decide_eq_false_iff_not];omega
  unfold Wm;dsimp only;rw[Bq h,BL];simp only[BK h,AE,hs,ne_self,BN,e1,e2,e3,e4,e5,uS hr ca,uV hw cb,ha,hk]
 grind[Wm,mW,BN,AS]
theorem ua{h:AH}(hf:CU h){k:Int}(h0:0<=k)(hb:k<=2 ^ 50) :
 ∃k' s ps cs td js,yd h k=some (k',⟨⟨s,h.AR.CJ,h.AR.Room,h.AR.BW,h.AR.Bn,h.AR.Bi,h.AR.Rest,h.AR.CI,h.AR.Ch⟩,h.Now,h.A4,ps,cs,td,js⟩)/\(k<=k'/\k'<=2 ^ 55) /\
  ∀r:AH,r.AR.Ae=s->r.AK=ps->r.Ap=cs->r.BO=td->r.BP=js->yo r k=some k':=by
 have g1:=hf.FJ;have g2:=hf.Db;have g3:=hf.H3;have g4:=hf.todo;have g5:=hf.K5;obtain⟨a,ea,a1,a2,a3,a4⟩:=YR (l:=h.AR.Ae) g1 h0 (by omega);obtain⟨b,eb,b1,b2,b3,b4⟩:=ub (l:=h.AK) g2 (k:=a.1) (by omega) (by omega);obtain⟨c,ec,c1,c2,c3,c4⟩:=n8 (l:=h.Ap) g3 hf.HW (k:=b.1) (by omega) (by omega);obtain⟨d,ed,d1,d2,d3,d4⟩:=YR (l:=h.BO) g4 (k:=c.1) (by omega) (by omega);obtain⟨e,ee,e1,e2,e3,e4⟩:=YR (l:=h.BP) g5 (k:=d.1) (by omega) (by omega);refine⟨e.1,a.2,b.2,c.2,d.2,e.2,?_,⟨by omega,by omega⟩,?_⟩
 .grind[yd,ADx,AE]
 .rintro r h1 h2 h3 h4 h5;have n1:decide (a.1<0)=false:=by rw[decide_eq_false_iff_not];omega
  have n2:decide (b.1<0)=false:=by rw[decide_eq_false_iff_not];omega
  have n3:decide (c.1<0)=false:=by rw[decide_eq_false_iff_not];omega
  have n4:decide (d.1<0)=false:=by rw[decide_eq_false_iff_not];omega
  have n5:decide (e.1<0)=false:=by rw[decide_eq_false_iff_not];omega
  unfold yo ADp;simp only[h1,h2,h3,h4,h5,Xz (l:=a.2) (by omega) a1,uU (l:=b.2) (by omega) b1,nY (l:=c.2) (by omega) c1,Xz (l:=d.2) (by omega) d1,Xz (l:=e.2) (by omega) e1,AE,n1,n2,n3,n4,n5,BN]
theorem AHb{t:List Int}{n:Nat}(hn:n<=4)(h:IQ t n=true):t.length<=4:=by
 unfold IQ at h;rw[KL]at h;refine Classical.byContradiction fun hg=>?_
 have key:∀i (hi:i<t.length),0<=t[i]/\t[i]<n/\∀j (hj:j<i),t[j]'(by omega)≠t[i]:=by
  grind[OK,B3,Du,Ao,List.mem_take_iff_getElem]
 have k0:=key 0 (by omega);have k1:=key 1 (by omega);have k2:=key 2 (by omega);have k3:=key 3 (by omega);have k4:=key 4 (by omega)
 grind
theorem ABH{h:AH}:(AFP h).length<=500:=by
 unfold AFP;split
 .rename_i hb;have hk:=Js hb;have hr:=Ce hk.1;have h1:=ED JZ (m:=10) (fun _=>AT _) h.AK;have h2:=ED (fun c:Aa=>[c.Ae.EV]) (m:=1) (fun _=>AT _) h.Ap;have h3:=ED (fun x:Int=>[w64 (x+1)]) (m:=1) (fun _=>AT _) h.BP;have h4:=AHb (t:=h.BO) (n:=h.Ap.length) (by omega) hk.2.2.2.2.2.2.1;unfold Fy H4;simp only[AO,AM,AQ];omega
 .simp
theorem uj:ye=some ⟨List.replicate 9 []⟩:=by
 unfold ye;refine(Da (n:=9) (fun i (v:Aq)=>((i:Int),v)) (fun i v=>v.Ah=List.replicate i []) (fun _ _=>some (⟨List.replicate 9 []⟩:Aq)) (by omega) ?_ (v:=⟨[]⟩) rfl);rintro L i ⟨s⟩ hv hi ih
 grind[mN,mM,BD,CG,lim,Bc,List.replicate_succ',AS]
theorem ui:ADo=some ⟨List.replicate 9 []⟩:=rfl
theorem ABG{r:AW}(hr:r.Ae.length<=1048576):FI r=some r:=by
 unfold FI;rw[CG (by unfold lim;omega),List.nil_append]
theorem ABF{r:AW}(hr:r.Ae.length<=1048576):kz r=some r:=by
 unfold kz IB;rw[CG (by unfold lim;omega),AE]
theorem AAw{w:Aq}(hw:DE w):yM w w=some true:=by
 unfold yM;have:=hw.1;rw[AAz (by omega) fun x hx=>by have:=n9 hx;have:=hw.2;omega,AE,BB,BL]
theorem AAt{c:Aa}(hc:Dl c):yN c c=some true:=by
 have:=hc.1;unfold yN;rw[qO,AE,BB,BL,qN (by omega),AE,BB,BL,AAw hc.2,AE,BB,BL]
theorem qM{l:List Aa}(hl:l.length<=1048576)(hp:∀x∈l,Dl x):xq l l=some true:=by
 unfold xq;refine XS (by omega) ?_ ?_
 .grind[Vp,BL,BK,AE,AAt,BB]
 grind[Vp,kQ,BN,AS]
theorem AAv{r:AW}(hr:r.Ae.length<=1048576):yD r r=some true:=by
 grind[yD,XU,AE,BB,BL]
theorem AAu{h:AH}(hf:CU h):xt h h=some true:=by
 have g1:=hf.FJ;have g2:=hf.Db;have g3:=hf.H3;have g4:=hf.todo;have g5:=hf.K5;unfold xt;rw[AAv g1,AE,BB,BL,ne_self,BN,ne_self,BN,qP (by omega),AE,BB,BL,qM g3 hf.HW,AE,BB,BL,XU (by omega),AE,BB,BL,XU (by omega),AE,BB,BL]
theorem MQ{e:Ay}(he:DU e):NX e e=some true:=by
 have:=he.laid;unfold NX;rw[AAu he.GR,AE,BB,BL,AA0,AE,BB,BL,ne_self,BN,AD6 (by omega),AE,BB,BL]
theorem Ko{e:Ay}(he:DU e){k:Int}(h0:0<=k)(hb:k<=2 ^ 50) :
 ∃k' s ps cs td js ld,WB e k=some (k',⟨⟨⟨s,e.Av.AR.CJ,e.Av.AR.Room,e.Av.AR.BW,e.Av.AR.Bn,e.Av.AR.Bi,e.Av.AR.Rest,e.Av.AR.CI,e.Av.AR.Ch⟩,e.Av.Now,e.Av.A4,ps,cs,td,js⟩,e.Bu,e.Seq,ld⟩)/\(k<=k'/\k'<=2 ^ 56) /\
  ∀r:Ay,r.Av.AR.Ae=s->r.Av.AK=ps->r.Av.Ap=cs->r.Av.BO=td->r.Av.BP=js->r.Laid=ld->Wo r k=some k':=by
 have hl:=he.laid;obtain⟨a,s,ps,cs,td,js,ea,⟨a1,a2⟩,ah⟩:=ua he.GR h0 hb;obtain⟨b,eb,b1,b2,b3,b4⟩:=AFI (l:=e.Laid) hl (k:=a) (by omega) (by omega);refine⟨b.1,s,ps,cs,td,js,b.2,?_,⟨by omega,by omega⟩,?_⟩
 .grind[WB,AE]
 grind[Wo,AE,BN,AEx]
theorem TW(h:AH)(q:Int):(M7 h q).length<=2600:=by
 unfold M7;split
 .rename_i hb;have hn:=ABH (h:=h);unfold AFP at hn
  grind[Ra,GQ]
 .simp
end Lv.P
