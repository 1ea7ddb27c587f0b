/-
  Plain laws: the numbers of a house, the text of a snapshot.
-/
import Derived.Test.YtpbbmlmilagnkaaGreatPB
import Derived.Test.YtpbbmlmilagnkaaGreatPC
set_option linter.unusedVariables false
set_option linter.unusedSimpArgs false
set_option linter.unusedSectionVars false
open Int renaming eq_ofNat_of_zero_le->Bb,toNat_natCast->AX
open List renaming getElem?_eq_getElem->AU,map_append->CO,map_cons->AI,set_set->CZ,sum_cons->JR,take_add_one->CP,take_length->DS
open Nat renaming lt_or_ge->Aj
namespace Lv.P
open Go (IntKind BinOp UnOp)
def ARz(r:AV):List Int:=[r.Cg,r.Room,r.A1,r.CA,r.Bq,r.Rest,r.Cc,r.Cu]++r.AR
def ATm(p:AJ):List Int:=[p.Id,p.AT,w64 (p.BQ+1),p.A1,p.CT,p.Since,p.Ai,p.State,p.CB,p.CX]
def AGS(h:AE):List Int:=
 (([((ARz h.AO).length:Int)]++ARz h.AO++[h.Now,h.Ai,(h.AG.length:Int)]++h.AG.flatMap ATm)++h.AH.flatMap (fun c=>[c.AR.DJ]))++[(h.A0.length:Int)]++h.A0++h.Ay.flatMap (fun x=>[w64 (x+1)])
theorem lG{h:AE}(hb:EC h=true):GI h.AO=true/\(0<=h.Now/\h.Now<=1000000)/\(1<=h.Ai/\h.Ai<=1000001)/\h.AG.length<=40/\h.AH.length=h.AO.AR.length/\Is h=true/\Hw h.A0 h.AH.length=true/\Jg h.Ay h.AH.length=true/\(h.Ay.length:Int)=h.AO.Cu/\KG h=true:=by
 grind[EC,CI,Bool.not_eq_true',decide_eq_false_iff_not]
noncomputable def AR2(h:AE)(q:Int):List UInt8:=if EC h=true/\inB q 0 1000000=true then four ((ARg (pL (q::AGS h)):Nat):Int)++pL (q::AGS h) else []
end Lv.P
namespace Lv.P
open Go (IntKind BinOp UnOp)
inductive E6{α:Type}(Q:Int->α->Int->Prop):Int->List α->Int->Prop|nil(k:Int):E6 Q k [] k|cons {k k1 k2:Int} {x:α} {l:List α} (h:Q k x k1) (t:E6 Q k1 l k2):E6 Q k (x::l) k2
section
variable{α:Type}{Q:Int->α->Int->Prop}
theorem E6.snoc{k k1 k2:Int}{l:List α}{x:α}(h:E6 Q k l k1)(hq:Q k1 x k2):E6 Q k (l++[x]) k2:=by
 induction h with
 |nil k=>exact .cons hq (.nil _)|cons h t ih=>exact .cons h (ih hq)
theorem APX{l:List α}(cst:α->Nat){i:Nat}(h:i<l.length):((l.take (i+1)).map cst).sum=((l.take i).map cst).sum+cst l[i]:=by
 grind[List.take_add_one,List.getElem?_eq_getElem]
theorem ATH{l:List α}(cst:α->Nat)(i:Nat):((l.take i).map cst).sum<=(l.map cst).sum:=by
 grind[List.take_append_drop]
theorem KZ(c:Nat):∀l:List α,(l.map (fun _=>c)).sum=c*l.length| []=>by simp|x::l=>by rw[AI,JR,KZ c l,List.length_cons,Nat.mul_add];omega
theorem mF{l:List α}{cst:α->Nat}{m:Nat}(h:∀x∈l,cst x<=m):(l.map cst).sum<=m*l.length:=by
 induction l with
 |nil=>simp|cons x l ih=>
  grind[List.mem_cons_self,List.mem_cons_of_mem,List.length_cons,Nat.mul_add]
theorem Ji{l:List α}(cst:α->Nat)(M:Int){F:(List α×Int×Int->AA (Int×List α))->List α×Int×Int->AA (Int×List α)}(hl:l.length<=1048576){k0:Int}(h0:0<=k0)(hb:k0+((l.map cst).sum:Nat)<=M)
 (step:∀L (v:List α) (k:Int) (i:Nat) (h:i<l.length),v.length=l.length->v[i]?=some l[i]->0<=k->k+cst l[i]<=M ->
  ∃k1 x',F L (v,k,(i:Int))=L (v.set i x',k1,w64 ((i:Int)+1))/\Q k x' k1/\k<=k1/\k1<=k+cst l[i])
 (stop:∀L v k,v.length=l.length->F L (v,k,(l.length:Int))=some (k,v)) :
 ∃r,Aw F big (l,k0,0)=some r/\(E6 Q k0 r.2 r.1/\r.2.length=l.length/\k0<=r.1/\r.1<=k0+((l.map cst).sum:Nat)):=by
 refine AF5 (n:=l.length) (fun i (v:List α×Int)=>(v.1,v.2,(i:Int))) (fun i v=>v.1.length=l.length/\v.1.drop i=l.drop i/\E6 Q k0 (v.1.take i) v.2/\k0<=v.2/\v.2<=k0+(((l.take i).map cst).sum:Nat)) _ (by omega) ?_ (v:=(l,k0)) ⟨rfl,rfl,by simpa using E6.nil k0,Int.le_refl _,by simp⟩;rintro L i ⟨v,k⟩ ⟨h1,h2,h3,h4,h5⟩ hi ih;dsimp only at h1 h2 h3 h4 h5 ih ⊢;rcases Aj i l.length with h|h
 .have hv:i<v.length:=by omega
  have e:v[i]=l[i]:=by
   grind[Ec,List.cons.injEq]
  have hs:=APX cst h;have hs2:=ATH (l:=l) cst (i+1);obtain⟨k1,x',g1,g2,g3,g4⟩:=step L v k i h h1 (by rw[AU hv,e]) (by omega) (by omega);rw[g1,Bd h (by omega)];refine ih (v.set i x',k1) ⟨by simp[h1],?_,?_,by dsimp only;omega,by dsimp only;omega⟩ h
  .dsimp only;rw[List.drop_set_of_lt (by omega)];have:=congrArg (List.drop 1) h2;simpa[List.drop_drop,Nat.add_comm] using this
  .dsimp only;have:(v.set i x').take (i+1)=v.take i++[x']:=by
    rw[CP,List.take_set_of_le (by omega)];simp[hv]
   rw[this];exact h3.snoc g2
 .obtain rfl:i=l.length:=by omega
  rw[stop L v k h1];rw[List.take_of_length_le (by omega)]at h3;rw[DS]at h5;exact⟨_,rfl,h3,h1,h4,h5⟩
theorem Jf{l:List α}{k k':Int}(hc:E6 Q k l k'){G:(Int×Int->AA Int)->Int×Int->AA Int}(hl:l.length<=1048576)
 (step:∀L i (h:i<l.length) k k1,Q k l[i] k1->G L (k,(i:Int))=L (k1,w64 ((i:Int)+1))) (stop:∀L k,G L (k,(l.length:Int))=some k):Aw G big (k,0)=some k':=by
 refine(C5 (n:=l.length) (fun i (k:Int)=>(k,(i:Int))) (fun i k=>E6 Q k (l.drop i) k') (fun _ _=>some k') (by omega) ?_ (by simpa using hc));intro L i k hk hi ih;rcases Aj i l.length with h|h
 .rw[Ec h]at hk;cases hk with
  |cons hq ht=>
   rw[step L i h _ _ hq,Bd h (by omega)];exact ih _ ht h
 .obtain rfl:i=l.length:=by omega
  rw[List.drop_length]at hk;cases hk;exact stop _ _
end
theorem NW{α:Type}{v:List α}{i:Nat}(h:i<v.length)(a:α):at? (v.set i a) (i:Int)=some a:=by rw[H0];simp[h]
def ARB(k:Int)(x:Int)(k1:Int):Prop:=x=k/\k1=k+1/\0<=k/\k<=2 ^ 60
theorem US{l:List Int}(hl:l.length<=1048576){k:Int}(h0:0<=k)(hb:k<=2 ^ 59) :
 ∃r,Zk l k=some r/\(E6 ARB k r.2 r.1/\r.2.length=l.length/\k<=r.1/\r.1<=k+1*l.length):=by
 have hs:=KZ 1 l;unfold Zk;have key:=Ji (l:=l) (Q:=ARB) (F:=TZ) (fun _=>1) (2 ^ 60) hl h0 (by rw[hs];omega) ?_ ?_
 .grind
 .intro L v k i h hv hx k0 kb;have hi:i<v.length:=by omega
  have ha:at? v (i:Int)=some l[i]:=by rw[H0];exact hx
  have e1:w64 (k+1)=k+1:=BP (by omega) (by omega);refine⟨k+1,k,?_,⟨rfl,rfl,k0,by omega⟩,by omega,by omega⟩;unfold TZ tL Zl
  grind[A3,BW,AF,AW,Int.toNat_natCast,NW,List.set_set]
 grind[TZ,Zl,BV,AW]
theorem UG{l:List Int}(hl:l.length<=1048576){k k':Int}(hc:E6 ARB k l k'):aF l k=some k':=by
 unfold aF;refine Jf hc hl ?_ ?_
 .rintro L i h k k1 ⟨hx,rfl,k0,kb⟩
  grind[BP,aG,A3,BW,A5,AF,BV]
 grind[aG,uZ,BV,AW]
def ACr(k:Int)(x:AJ)(k1:Int):Prop:=x=⟨k,k+1,k+1+1,k+1+1+1,k+1+1+1+1,k+1+1+1+1+1,k+1+1+1+1+1+1,k+1+1+1+1+1+1+1,k+1+1+1+1+1+1+1+1,k+1+1+1+1+1+1+1+1+1⟩/\k1=k+1+1+1+1+1+1+1+1+1+1/\0<=k/\k<=2 ^ 60
theorem AB3{l:List AJ}(hl:l.length<=1048576){k:Int}(h0:0<=k)(hb:k<=2 ^ 59) :
 ∃r,AD5 l k=some r/\(E6 ACr k r.2 r.1/\r.2.length=l.length/\k<=r.1/\r.1<=k+10*l.length):=by
 have hs:=KZ 10 l;unfold AD5;have key:=Ji (l:=l) (Q:=ACr) (F:=Ta) (fun _=>10) (2 ^ 60) hl h0 (by rw[hs];omega) ?_ ?_
 .obtain⟨r,g1,g2,g3,g4,g5⟩:=key;exact⟨r,g1,g2,g3,g4,by rw[hs]at g5;omega⟩
 .intro L v k i h hv hx k0 kb;have hi:i<v.length:=by omega
  have ha:at? v (i:Int)=some l[i]:=by rw[H0];exact hx
  have e1:w64 (k+1)=k+1:=BP (by omega) (by omega);have e2:w64 (k+1+1)=k+1+1:=BP (by omega) (by omega);have e3:w64 (k+1+1+1)=k+1+1+1:=BP (by omega) (by omega);have e4:w64 (k+1+1+1+1)=k+1+1+1+1:=BP (by omega) (by omega);have e5:w64 (k+1+1+1+1+1)=k+1+1+1+1+1:=BP (by omega) (by omega);have e6:w64 (k+1+1+1+1+1+1)=k+1+1+1+1+1+1:=BP (by omega) (by omega);have e7:w64 (k+1+1+1+1+1+1+1)=k+1+1+1+1+1+1+1:=BP (by omega) (by omega);have e8:w64 (k+1+1+1+1+1+1+1+1)=k+1+1+1+1+1+1+1+1:=BP (by omega) (by omega);have e9:w64 (k+1+1+1+1+1+1+1+1+1)=k+1+1+1+1+1+1+1+1+1:=BP (by omega) (by omega);have e10:w64 (k+1+1+1+1+1+1+1+1+1+1)=k+1+1+1+1+1+1+1+1+1+1:=BP (by omega) (by omega);refine⟨k+1+1+1+1+1+1+1+1+1+1,⟨k,k+1,k+1+1,k+1+1+1,k+1+1+1+1,k+1+1+1+1+1,k+1+1+1+1+1+1,k+1+1+1+1+1+1+1,k+1+1+1+1+1+1+1+1,k+1+1+1+1+1+1+1+1+1⟩,?_,⟨rfl,rfl,k0,by omega⟩,by omega,by omega⟩;unfold Ta tM tN tO tP tQ tT tU tV jy jz VU;dsimp only;rw[A3 hi,BW];simp only[ha,AF,AW,AX,NW hi,CZ,e1,e2,e3,e4,e5,e6,e7,e8,e9,e10]
 .intro L v k hv;unfold Ta VU;dsimp only;rw[hv,Cw,BV,AW]
theorem ABu{l:List AJ}(hl:l.length<=1048576){k k':Int}(hc:E6 ACr k l k'):AEe l k=some k':=by
 unfold AEe;refine Jf hc hl ?_ ?_
 .rintro L i h k k1 ⟨hx,rfl,k0,kb⟩;have e1:w64 (k+1)=k+1:=BP (by omega) (by omega);have e2:w64 (k+1+1)=k+1+1:=BP (by omega) (by omega);have e3:w64 (k+1+1+1)=k+1+1+1:=BP (by omega) (by omega);have e4:w64 (k+1+1+1+1)=k+1+1+1+1:=BP (by omega) (by omega);have e5:w64 (k+1+1+1+1+1)=k+1+1+1+1+1:=BP (by omega) (by omega);have e6:w64 (k+1+1+1+1+1+1)=k+1+1+1+1+1+1:=BP (by omega) (by omega);have e7:w64 (k+1+1+1+1+1+1+1)=k+1+1+1+1+1+1+1:=BP (by omega) (by omega);have e8:w64 (k+1+1+1+1+1+1+1+1)=k+1+1+1+1+1+1+1+1:=BP (by omega) (by omega);have e9:w64 (k+1+1+1+1+1+1+1+1+1)=k+1+1+1+1+1+1+1+1+1:=BP (by omega) (by omega);have e10:w64 (k+1+1+1+1+1+1+1+1+1+1)=k+1+1+1+1+1+1+1+1+1+1:=BP (by omega) (by omega);unfold aI;dsimp only;rw[A3 h,BW];simp only[A5 h,AF,hx,ne_self,BV,e1,e2,e3,e4,e5,e6,e7,e8,e9,e10]
 .intro L k;unfold aI uy;dsimp only;rw[Cw,BV,AW]
def pq(k:Int)(x:AQ)(k1:Int):Prop:=x=⟨k,k+1,k+1+1,k+1+1+1⟩/\k1=k+1+1+1+1/\0<=k/\k<=2 ^ 60
theorem AB1{l:List AQ}(hl:l.length<=1048576){k:Int}(h0:0<=k)(hb:k<=2 ^ 59) :
 ∃r,AEQ l k=some r/\(E6 pq k r.2 r.1/\r.2.length=l.length/\k<=r.1/\r.1<=k+4*l.length):=by
 have hs:=KZ 4 l;unfold AEQ;have key:=Ji (l:=l) (Q:=pq) (F:=Tf) (fun _=>4) (2 ^ 60) hl h0 (by rw[hs];omega) ?_ ?_
 .grind
 .intro L v k i h hv hx k0 kb;have hi:i<v.length:=by omega
  have ha:at? v (i:Int)=some l[i]:=by rw[H0];exact hx
  have e1:w64 (k+1)=k+1:=BP (by omega) (by omega);have e2:w64 (k+1+1)=k+1+1:=BP (by omega) (by omega);have e3:w64 (k+1+1+1)=k+1+1+1:=BP (by omega) (by omega);have e4:w64 (k+1+1+1+1)=k+1+1+1+1:=BP (by omega) (by omega);refine⟨k+1+1+1+1,⟨k,k+1,k+1+1,k+1+1+1⟩,?_,⟨rfl,rfl,k0,by omega⟩,by omega,by omega⟩;unfold Tf uK uL uM uN aD;dsimp only;rw[A3 hi,BW];simp only[ha,AF,AW,AX,NW hi,CZ,e1,e2,e3,e4]
 grind[Tf,aD,BV,AW]
theorem ABt{l:List AQ}(hl:l.length<=1048576){k k':Int}(hc:E6 pq k l k'):AEf l k=some k':=by
 unfold AEf;refine Jf hc hl ?_ ?_
 .rintro L i h k k1 ⟨hx,rfl,k0,kb⟩
  grind[BP,aJ,A3,BW,A5,AF,BV]
 grind[aJ,uz,BV,AW]
def ARC(k:Int)(x:AY)(k1:Int):Prop:=x=⟨k,k+1⟩/\k1=k+1+1/\0<=k/\k<=2 ^ 60
theorem ANd{l:List AY}(hl:l.length<=1048576){k:Int}(h0:0<=k)(hb:k<=2 ^ 59) :
 ∃r,AER l k=some r/\(E6 ARC k r.2 r.1/\r.2.length=l.length/\k<=r.1/\r.1<=k+2*l.length):=by
 have hs:=KZ 2 l;unfold AER;have key:=Ji (l:=l) (Q:=ARC) (F:=Tg) (fun _=>2) (2 ^ 60) hl h0 (by rw[hs];omega) ?_ ?_
 .grind
 .intro L v k i h hv hx k0 kb;have hi:i<v.length:=by omega
  have ha:at? v (i:Int)=some l[i]:=by rw[H0];exact hx
  have e1:w64 (k+1)=k+1:=BP (by omega) (by omega);have e2:w64 (k+1+1)=k+1+1:=BP (by omega) (by omega);refine⟨k+1+1,⟨k,k+1⟩,?_,⟨rfl,rfl,k0,by omega⟩,by omega,by omega⟩;unfold Tg uO uP aE
  grind[A3,BW,AF,AW,Int.toNat_natCast,NW,List.set_set]
 grind[Tg,aE,BV,AW]
theorem ANF{l:List AY}(hl:l.length<=1048576){k k':Int}(hc:E6 ARC k l k'):AEg l k=some k':=by
 unfold AEg;refine Jf hc hl ?_ ?_
 .rintro L i h k k1 ⟨hx,rfl,k0,kb⟩
  grind[BP,aK,A3,BW,A5,AF,BV]
 grind[aK,vA,BV,AW]
def AS9(k:Int)(x:Bw)(k1:Int):Prop:=x=⟨k,k+1,k+1+1,k+1+1+1,k+1+1+1+1,k+1+1+1+1+1⟩/\k1=k+1+1+1+1+1+1/\0<=k/\k<=2 ^ 60
theorem ANe{l:List Bw}(hl:l.length<=1048576){k:Int}(h0:0<=k)(hb:k<=2 ^ 59) :
 ∃r,AEd l k=some r/\(E6 AS9 k r.2 r.1/\r.2.length=l.length/\k<=r.1/\r.1<=k+6*l.length):=by
 have hs:=KZ 6 l;unfold AEd;have key:=Ji (l:=l) (Q:=AS9) (F:=Tj) (fun _=>6) (2 ^ 60) hl h0 (by rw[hs];omega) ?_ ?_
 .grind
 .intro L v k i h hv hx k0 kb;have hi:i<v.length:=by omega
  have ha:at? v (i:Int)=some l[i]:=by rw[H0];exact hx
  have e1:w64 (k+1)=k+1:=BP (by omega) (by omega);have e2:w64 (k+1+1)=k+1+1:=BP (by omega) (by omega);have e3:w64 (k+1+1+1)=k+1+1+1:=BP (by omega) (by omega);have e4:w64 (k+1+1+1+1)=k+1+1+1+1:=BP (by omega) (by omega);have e5:w64 (k+1+1+1+1+1)=k+1+1+1+1+1:=BP (by omega) (by omega);have e6:w64 (k+1+1+1+1+1+1)=k+1+1+1+1+1+1:=BP (by omega) (by omega);refine⟨k+1+1+1+1+1+1,⟨k,k+1,k+1+1,k+1+1+1,k+1+1+1+1,k+1+1+1+1+1⟩,?_,⟨rfl,rfl,k0,by omega⟩,by omega,by omega⟩;unfold Tj um uo uq ur uu uw aH;dsimp only;rw[A3 hi,BW];simp only[ha,AF,AW,AX,NW hi,CZ,e1,e2,e3,e4,e5,e6]
 grind[Tj,aH,BV,AW]
theorem ANG{l:List Bw}(hl:l.length<=1048576){k k':Int}(hc:E6 AS9 k l k'):AEL l k=some k':=by
 unfold AEL;refine Jf hc hl ?_ ?_
 .rintro L i h k k1 ⟨hx,rfl,k0,kb⟩;have e1:w64 (k+1)=k+1:=BP (by omega) (by omega);have e2:w64 (k+1+1)=k+1+1:=BP (by omega) (by omega);have e3:w64 (k+1+1+1)=k+1+1+1:=BP (by omega) (by omega);have e4:w64 (k+1+1+1+1)=k+1+1+1+1:=BP (by omega) (by omega);have e5:w64 (k+1+1+1+1+1)=k+1+1+1+1+1:=BP (by omega) (by omega);have e6:w64 (k+1+1+1+1+1+1)=k+1+1+1+1+1+1:=BP (by omega) (by omega);unfold Z8
  grind[A3,BW,A5,AF,BV]
 grind[Z8,uB,BV,AW]
end Lv.P
namespace Lv.P
open Go (IntKind BinOp UnOp)
theorem ALZ{α:Type}{v:List α}{i:Nat}(h:i<v.length)(a:α):(v.set i a)[i]?=some a:=by simp[h]
def AGd(k:Int)(s:List AY)(k1:Int):Prop:=s.length<=1048576/\E6 ARC k s k1/\0<=k/\0<=k1
theorem xC:∀l:List (List AY),(l.map (fun s=>2*s.length)).sum=2*l.flatten.length| []=>rfl|s::l=>by rw[AI,JR,xC l,List.flatten_cons,List.length_append];omega
theorem AB4{w:Ah}(hw:DK w){k:Int}(h0:0<=k)(hb:k<=2 ^ 58) :
 ∃r,AES w.Aa k=some r/\(E6 AGd k r.2 r.1/\r.2.length=w.Aa.length/\k<=r.1/\r.1<=k+2*w.Aa.flatten.length):=by
 have hs:=xC w.Aa;have h1:=hw.1;have h2:=hw.2;unfold AES;have key:=Ji (l:=w.Aa) (Q:=AGd) (F:=Th) (fun s=>2*s.length) (2 ^ 59) h1 h0 (by rw[hs];omega) ?_ ?_
 .grind
 .intro L v k i h hv hx k0 kb;have hi:i<v.length:=by omega
  have ha:at? v (i:Int)=some w.Aa[i]:=by rw[H0];exact hx
  have hl:=HR h;obtain⟨r,e,c1,c2,c3,c4⟩:=ANd (l:=w.Aa[i]) (by omega) k0 (by omega);refine⟨r.1,r.2,?_,⟨by omega,c1,k0,by omega⟩,c3,by push_cast;omega⟩
  grind[Th,A3,BW,AF,DB,Int.toNat_natCast]
 grind[Th,uQ,BV,AW]
theorem ABv{l:List (List AY)}(hl:l.length<=1048576){k k':Int}(hc:E6 AGd k l k'):AEh l k=some k':=by
 unfold AEh;refine Jf hc hl ?_ ?_
 .rintro L i h k k1 ⟨hs,c,k0,k10⟩;unfold aM;dsimp only;rw[A3 h,BW,A5 h,AF,ANF hs c,AF,Bl,if_neg (by omega)]
 grind[aM,vB,BV,AW]
def ACq(k:Int)(c:AS)(k1:Int):Prop:=
 c.AR=⟨k,k+1,k+1+1,k+1+1+1,k+1+1+1+1⟩/\(0<=k/\k<=2 ^ 60)/\c.Row.length<=1048576/\c.BO.Aa.length<=1048576/\0<=k1/\∃a,E6 pq (k+1+1+1+1+1) c.Row a/\0<=a/\E6 AGd a c.BO.Aa k1
def AQK(c:AS):Nat:=5+4*c.Row.length+2*c.BO.Aa.flatten.length
theorem xe{l:List AS}(hl:l.length<=1048576)(hf:∀c∈l,Da c){k:Int}(h0:0<=k)(hb:k<=2 ^ 56) :
 ∃r,AET l k=some r/\(E6 ACq k r.2 r.1/\r.2.length=l.length/\k<=r.1/\r.1<=k+2 ^ 50):=by
 have hs:=mF (l:=l) (cst:=AQK) (m:=6291461) fun c hc=>by
  have:=hf c hc;have h1:=this.1;have h2:=this.2.2;unfold AQK;omega
 unfold AET;have key:=Ji (l:=l) (Q:=ACq) (F:=Ti) AQK (2 ^ 57) hl h0 (by omega) ?_ ?_
 .grind
 .intro L v k i h hv hx k0 kb;have hi:i<v.length:=by omega
  have ha:at? v (i:Int)=some l[i]:=by rw[H0];exact hx
  have hc:=hf _ (List.getElem_mem h);have hr:=hc.1;have hw1:=hc.2.1;have hw2:=hc.2.2;have hcst:AQK l[i]=5+4*l[i].Row.length+2*l[i].BO.Aa.flatten.length:=rfl;have e1:w64 (k+1)=k+1:=BP (by omega) (by omega);have e2:w64 (k+1+1)=k+1+1:=BP (by omega) (by omega);have e3:w64 (k+1+1+1)=k+1+1+1:=BP (by omega) (by omega);have e4:w64 (k+1+1+1+1)=k+1+1+1+1:=BP (by omega) (by omega);have e5:w64 (k+1+1+1+1+1)=k+1+1+1+1+1:=BP (by omega) (by omega);obtain⟨a,ea,a1,a2,a3,a4⟩:=AB1 (l:=l[i].Row) hr (k:=k+1+1+1+1+1) (by omega) (by omega);obtain⟨b,eb,b1,b2,b3,b4⟩:=AB4 (w:=l[i].BO) hc.2 (k:=a.1) (by omega) (by omega);refine⟨b.1,⟨⟨k,k+1,k+1+1,k+1+1+1,k+1+1+1+1⟩,a.2,⟨b.2⟩⟩,?_,⟨rfl,⟨k0,by omega⟩,by dsimp only;omega,by dsimp only;omega,by omega,a.1,a1,by omega,b1⟩,by omega,by omega⟩;unfold Ti uR uS uU uV uW uX;dsimp only;rw[A3 hi,BW];simp only[ha,AF,AW,AX,NW hi,CZ,e1,e2,e3,e4,e5,ea,eb,ALZ hi];rw[DB trivial,DB trivial]
 grind[Ti,uY,BV,AW]
theorem xL{l:List AS}(hl:l.length<=1048576){k k':Int}(hc:E6 ACq k l k'):AEi l k=some k':=by
 unfold AEi;refine Jf hc hl ?_ ?_
 .rintro L i h k k1 ⟨hs,⟨k0,kb⟩,hr,hw,k10,a,ca,a0,cb⟩;have e1:w64 (k+1)=k+1:=BP (by omega) (by omega);have e2:w64 (k+1+1)=k+1+1:=BP (by omega) (by omega);have e3:w64 (k+1+1+1)=k+1+1+1:=BP (by omega) (by omega);have e4:w64 (k+1+1+1+1)=k+1+1+1+1:=BP (by omega) (by omega);have e5:w64 (k+1+1+1+1+1)=k+1+1+1+1+1:=BP (by omega) (by omega);have ha:decide (a<0)=false:=by rw[decide_eq_false_iff_not];omega
  have hk:decide (k1<0)=false:=by rw[decide_eq_false_iff_not];omega
  unfold aN;dsimp only;rw[A3 h,BW];simp only[A5 h,AF,hs,ne_self,BV,e1,e2,e3,e4,e5,ABt hr ca,ABv hw cb,ha,hk]
 grind[aN,vC,BV,AW]
theorem AB2{h:AE}(hf:Ba h){k:Int}(h0:0<=k)(hb:k<=2 ^ 50) :
 ∃k' s ps cs td js,AEU h k=some (k',⟨⟨s,h.AO.Cg,h.AO.Room,h.AO.A1,h.AO.CA,h.AO.Bq,h.AO.Rest,h.AO.Cc,h.AO.Cu⟩,h.Now,h.Ai,ps,cs,td,js⟩)/\(k<=k'/\k'<=2 ^ 55) /\
  ∀r:AE,r.AO.AR=s->r.AG=ps->r.AH=cs->r.A0=td->r.Ay=js->AEK r k=some k':=by
 have g1:=hf.DV;have g2:=hf.Bv;have g3:=hf.D7;have g4:=hf.todo;have g5:=hf.FL;obtain⟨a,ea,a1,a2,a3,a4⟩:=US (l:=h.AO.AR) g1 h0 (by omega);obtain⟨b,eb,b1,b2,b3,b4⟩:=AB3 (l:=h.AG) g2 (k:=a.1) (by omega) (by omega);obtain⟨c,ec,c1,c2,c3,c4⟩:=xe (l:=h.AH) g3 hf.C4 (k:=b.1) (by omega) (by omega);obtain⟨d,ed,d1,d2,d3,d4⟩:=US (l:=h.A0) g4 (k:=c.1) (by omega) (by omega);obtain⟨e,ee,e1,e2,e3,e4⟩:=US (l:=h.Ay) g5 (k:=d.1) (by omega) (by omega);refine⟨e.1,a.2,b.2,c.2,d.2,e.2,?_,⟨by omega,by omega⟩,?_⟩
 .grind[AEU,AKs,AF]
 .rintro r h1 h2 h3 h4 h5;have n1:decide (a.1<0)=false:=by rw[decide_eq_false_iff_not];omega
  have n2:decide (b.1<0)=false:=by rw[decide_eq_false_iff_not];omega
  have n3:decide (c.1<0)=false:=by rw[decide_eq_false_iff_not];omega
  have n4:decide (d.1<0)=false:=by rw[decide_eq_false_iff_not];omega
  have n5:decide (e.1<0)=false:=by rw[decide_eq_false_iff_not];omega
  unfold AEK AKu;simp only[h1,h2,h3,h4,h5,UG (l:=a.2) (by omega) a1,ABu (l:=b.2) (by omega) b1,xL (l:=c.2) (by omega) c1,UG (l:=d.2) (by omega) d1,UG (l:=e.2) (by omega) e1,AF,n1,n2,n3,n4,n5,BV]
end Lv.P
namespace Lv.P
open Go (IntKind BinOp UnOp)
def KU(n:Int):Av×Bool:=if DD ⟨n,0,0,n,0⟩=true then (⟨n,0,0,n,0⟩,true) else (⟨0,0,0,0,0⟩,false)
def F8(n:Int):AS×Bool:=if (KU n).2=true then (⟨(KU n).1,[],⟨List.replicate 9 []⟩⟩,true) else (⟨⟨0,0,0,0,0⟩,[],⟨[]⟩⟩,false)
def Hs(r:AV):AE×Bool:=
 if GI r=true then (⟨r,0,1,[],r.AR.map (fun n=>(F8 n).1),[],List.replicate r.Cu.toNat (-1)⟩,true) else (⟨⟨[],0,0,0,0,0,0,0,0⟩,0,0,[],[],[],[]⟩,false)
theorem ACK:ua=some ⟨List.replicate 9 []⟩:=by
 unfold ua;refine(C5 (n:=9) (fun i (v:Ah)=>((i:Int),v)) (fun i v=>v.Aa=List.replicate i []) (fun _ _=>some (⟨List.replicate 9 []⟩:Ah)) (by omega) ?_ (v:=⟨[]⟩) rfl);rintro L i ⟨s⟩ hv hi ih
 grind[uc,ub,Bl,Nat.lt_or_ge,DB,List.length_replicate,lim,Bd,List.replicate_succ',AW]
theorem ACJ:AEZ=some ⟨List.replicate 9 []⟩:=rfl
theorem lQ{r:AV}(hr:r.AR.length<=1048576):FP r=some r:=by
 unfold FP;rw[DB (by unfold lim;omega),List.nil_append]
theorem lP{r:AV}(hr:r.AR.length<=1048576):j7 r=some r:=by
 unfold j7 I2;rw[DB (by unfold lim;omega),AF]
theorem xl(n:Int):AEV n=some (KU n):=by
 unfold AEV KU;rw[MJ,AF,BI,B5];split<;>rfl
theorem ACG(n:Int):AEW n=some (F8 n):=by
 grind[AEW,F8,xl,AF,BI,ACK,B5]
theorem ACI{r:AV}(hr:r.AR.length<=1048576):AEX r=some (Hs r):=by
 unfold AEX Hs;rw[KN (by omega),AF,BI,lQ hr,AF,B5];by_cases hb:GI r=true
 .have hk:=Cb hb;rw[if_pos hb,if_pos hb];refine C5 (n:=r.AR.length) (fun i (v:AE)=>((i:Int),v)) (fun i v=>v=⟨r,0,1,[],(r.AR.take i).map (fun n=>(F8 n).1),[],[]⟩) (fun _ _=>_) (by omega) ?_ (v:=⟨r,0,1,[],[],[],[]⟩) (by simp);rintro L i v hv hi ih;unfold uf;dsimp only at ih ⊢;rcases Aj i r.AR.length with h|h
  .rw[A3 h,BW,A5 h,AF,ACG,AF,DB (by rw[hv,KK];simp;unfold lim;omega),Bd h (by omega)];refine ih _ ?_ h;have e:r.AR.take (i+1)=r.AR.take i++[r.AR[i]]:=by rw[CP,AU h];rfl
   rw[hv,e,CO];rfl
  .obtain rfl:i=r.AR.length:=by omega
   rw[Cw,BV,AW,hv,DS];unfold ud;obtain⟨n,hn⟩:=Bb (show 0<=r.Cu by omega);refine C5 (n:=n) (fun i (v:AE)=>((i:Int),v)) (fun i v=>v=⟨r,0,1,[],r.AR.map (fun n=>(F8 n).1),[],List.replicate i (-1)⟩) (fun _ _=>_) (by omega) ?_ (v:=⟨r,0,1,[],r.AR.map (fun n=>(F8 n).1),[],[]⟩) rfl;rintro L j w hw hj ih;unfold ug ue
   grind[dec_lt,Nat.lt_or_ge,decide_eq_true,BW,DB,KK,List.length_replicate,lim,Bd,List.replicate_succ',decide_eq_false,BV,AW]
 .rw[if_neg hb,if_neg hb]
theorem xk(n:Int):AEY n=some (KU n):=by
 unfold AEY KU;rw[E0,AF,BI,B5];split<;>rfl
theorem ACF(n:Int):AEa n=some (F8 n):=by
 grind[AEa,F8,xk,AF,BI,ACJ,B5]
theorem ACH{r:AV}(hr:r.AR.length<=1048576):AEb r=some (Hs r):=by
 unfold AEb Hs;rw[HM (by omega),AF,BI,lP hr,AF,B5];by_cases hb:GI r=true
 .have hk:=Cb hb;rw[if_pos hb,if_pos hb];refine C5 (n:=r.AR.length) (fun i (v:AE)=>((i:Int),v)) (fun i v=>v=⟨r,0,1,[],(r.AR.take i).map (fun n=>(F8 n).1),[],[]⟩) (fun _ _=>_) (by omega) ?_ (v:=⟨r,0,1,[],[],[],[]⟩) (by simp);rintro L i v hv hi ih;unfold uj;dsimp only at ih ⊢;rcases Aj i r.AR.length with h|h
  .rw[A3 h,BW,A5 h,AF,ACF,AF,DB (by rw[hv,KK];simp;unfold lim;omega),Bd h (by omega)];refine ih _ ?_ h;have e:r.AR.take (i+1)=r.AR.take i++[r.AR[i]]:=by rw[CP,AU h];rfl
   rw[hv,e,CO];rfl
  .obtain rfl:i=r.AR.length:=by omega
   rw[Cw,BV,AW,hv,DS];unfold uh;obtain⟨n,hn⟩:=Bb (show 0<=r.Cu by omega);refine C5 (n:=n) (fun i (v:AE)=>((i:Int),v)) (fun i v=>v=⟨r,0,1,[],r.AR.map (fun n=>(F8 n).1),[],List.replicate i (-1)⟩) (fun _ _=>_) (by omega) ?_ (v:=⟨r,0,1,[],r.AR.map (fun n=>(F8 n).1),[],[]⟩) rfl;rintro L j w hw hj ih;unfold uk ui
   grind[dec_lt,Nat.lt_or_ge,decide_eq_true,BW,DB,KK,List.length_replicate,lim,Bd,List.replicate_succ',decide_eq_false,BV,AW]
 .rw[if_neg hb,if_neg hb]
theorem mZ(n:Int):Da (F8 n).1:=by
 unfold F8;split
 .exact⟨by simp,by simp,by simp⟩
 .exact⟨by simp,by simp,by simp⟩
theorem UI{r:AV}(hr:r.AR.length<=1048576):Ba (Hs r).1:=by
 unfold Hs;split
 .rename_i hb;have hk:=Cb hb;refine⟨hr,by simp,by simpa using hr,?_,by simp,?_⟩
  .grind[mZ]
  .simp;omega
 .exact⟨by simp,by simp,by simp,by simp,by simp,by simp⟩
theorem AHP{w:Ah}(hw:DK w):AEI w w=some true:=by
 unfold AEI;have:=hw.1;rw[AHT (by omega) fun x hx=>by have:=xh hx;have:=hw.2;omega,AF,BI,BW]
theorem AHL{c:AS}(hc:Da c):AEJ c c=some true:=by
 have:=hc.1;unfold AEJ;rw[zW,AF,BI,BW,zV (by omega),AF,BI,BW,AHP hc.2,AF,BI,BW]
theorem zU{l:List AS}(hl:l.length<=1048576)(hp:∀x∈l,Da x):AD2 l l=some true:=by
 unfold AD2;refine XJ (by omega) ?_ ?_
 .grind[Zj,A3,BW,A5,AF,AHL,List.getElem_mem,BI]
 grind[Zj,tH,BV,AW]
theorem AHO{r:AV}(hr:r.AR.length<=1048576):AD9 r r=some true:=by
 grind[AD9,T8,AF,BI,BW,BV]
theorem AHM{h:AE}(hf:Ba h):AD3 h h=some true:=by
 have g1:=hf.DV;have g2:=hf.Bv;have g3:=hf.D7;have g4:=hf.todo;have g5:=hf.FL;unfold AD3;rw[AHO g1,AF,BI,BW,ne_self,BV,ne_self,BV,zX (by omega),AF,BI,BW,zU g3 hf.C4,AF,BI,BW,T8 (by omega),AF,BI,BW,T8 (by omega),AF,BI,BW]
theorem RV{e:Be}(he:E2 e):W9 e e=some true:=by
 have:=he.laid;unfold W9;rw[AHM he.FQ,AF,BI,BW,AHU,AF,BI,BW,ne_self,BV,w9 (by omega),AF,BI,BW]
theorem XU{e:Be}(he:E2 e){k:Int}(h0:0<=k)(hb:k<=2 ^ 50) :
 ∃k' s ps cs td js ld,ux e k=some (k',⟨⟨⟨s,e.BD.AO.Cg,e.BD.AO.Room,e.BD.AO.A1,e.BD.AO.CA,e.BD.AO.Bq,e.BD.AO.Rest,e.BD.AO.Cc,e.BD.AO.Cu⟩,e.BD.Now,e.BD.Ai,ps,cs,td,js⟩,e.CY,e.Seq,ld⟩)/\(k<=k'/\k'<=2 ^ 56) /\
  ∀r:Be,r.BD.AO.AR=s->r.BD.AG=ps->r.BD.AH=cs->r.BD.A0=td->r.BD.Ay=js->r.Laid=ld->uC r k=some k':=by
 have hl:=he.laid;obtain⟨a,s,ps,cs,td,js,ea,⟨a1,a2⟩,ah⟩:=AB2 he.FQ h0 hb;obtain⟨b,eb,b1,b2,b3,b4⟩:=ANe (l:=e.Laid) hl (k:=a) (by omega) (by omega);refine⟨b.1,s,ps,cs,td,js,b.2,?_,⟨by omega,by omega⟩,?_⟩
 .grind[ux,AF]
 grind[decide_eq_false_iff_not,uC,AF,BV,ANG]
theorem ANi(b:Bool):(!b==b)=false:=by cases b<;>rfl
end Lv.P
