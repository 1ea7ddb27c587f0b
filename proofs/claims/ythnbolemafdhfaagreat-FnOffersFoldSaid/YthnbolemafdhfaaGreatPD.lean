/-
  Plain laws: the numbers of a house, the text of a snapshot.
-/
import Derived.Test.YthnbolemafdhfaaGreatPB
import Derived.Test.YthnbolemafdhfaaGreatPC
set_option linter.unusedVariables false
set_option linter.unusedSimpArgs false
set_option linter.unusedSectionVars false
namespace Lv.P
open Go (IntKind BinOp UnOp)
def yV(r:AN):List Int:=[r.Bq,r.Room,r.AY,r.CI,r.BI,r.Rest,r.BF,r.Cc]++r.AM
def AAC(p:AH):List Int:=[p.Id,p.AK,w64 (p.Ay+1),p.AY,p.Bb,p.Since,p.AQ,p.State,p.Bh,p.Ba]
def lk(h:AA):List Int:=
 (([((yV h.AG).length:Int)]++yV h.AG++[h.Now,h.AQ,(h.AB.length:Int)]++h.AB.flatMap AAC)++h.AE.flatMap (fun c=>[c.AM.Co]))++[(h.AW.length:Int)]++h.AW++h.AS.flatMap (fun x=>[w64 (x+1)])
theorem Wh{h:AA}(hb:C7 h=true):DY h.AG=true/\(0<=h.Now/\h.Now<=1000000)/\(1<=h.AQ/\h.AQ<=1000001)/\h.AB.length<=40/\h.AE.length=h.AG.AM.length/\G9 h=true/\EV h.AW h.AE.length=true/\GM h.AS h.AE.length=true/\(h.AS.length:Int)=h.AG.Cc/\LW h=true:=by
 unfold C7 at hb;simp only [Bool.and_eq_true,BH,Bool.not_eq_true',decide_eq_false_iff_not,beq_iff_eq] at hb;obtain⟨h1,h2,h3,h4,h5,h6,⟨h7,h8,h9⟩,h10⟩:=hb;exact⟨h1,h2,h3,by omega,by omega,h6,h7,h8,h9,h10⟩
noncomputable def yX(h:AA)(q:Int):List UInt8:=if C7 h=true/\inB q 0 1000000=true then four ((yM (pL (q::lk h)):Nat):Int)++pL (q::lk h) else []
end Lv.P
namespace Lv.P
open Go (IntKind BinOp UnOp)
inductive pw{α:Type}(Q:Int->α->Int->Prop):Int->List α->Int->Prop
 |nil(k:Int):pw Q k [] k
 |cons {k k1 k2:Int} {x:α} {l:List α} (h:Q k x k1) (t:pw Q k1 l k2):pw Q k (x::l) k2
section
variable{α:Type}{Q:Int->α->Int->Prop}
end
end Lv.P
namespace Lv.P
open Go (IntKind BinOp UnOp)
end Lv.P
namespace Lv.P
open Go (IntKind BinOp UnOp)
def Lk(n:Int):Am×Bool:=if CO ⟨n,0,0,n,0⟩=true then (⟨n,0,0,n,0⟩,true) else (⟨0,0,0,0,0⟩,false)
def Ft(n:Int):AZ×Bool:=if (Lk n).2=true then (⟨(Lk n).1,[],⟨List.replicate 9 []⟩⟩,true) else (⟨⟨0,0,0,0,0⟩,[],⟨[]⟩⟩,false)
def Kx(r:AN):AA×Bool:=
 if DY r=true then (⟨r,0,1,[],r.AM.map (fun n=>(Ft n).1),[],List.replicate r.Cc.toNat (-1)⟩,true) else (⟨⟨[],0,0,0,0,0,0,0,0⟩,0,0,[],[],[],[]⟩,false)
theorem M0:mz=some ⟨List.replicate 9 []⟩:=by
 unfold mz;refine(B8 (n:=9) (fun i (v:AU)=>((i:Int),v)) (fun i v=>v.AP=List.replicate i []) (fun _ _=>some (⟨List.replicate 9 []⟩:AU)) (by omega) ?_ (v:=⟨[]⟩) rfl);rintro L i ⟨s⟩ hv hi ih;unfold jv ju;dsimp only at hv ih ⊢;subst hv;rw [BT];rcases Nat.lt_or_ge i 9 with h|h
 .rw [if_pos (by omega),BP (by simp only [List.length_replicate];unfold lim;omega),Av h (by omega)];exact ih ⟨_⟩ (by rw [List.replicate_succ']) h
 .obtain rfl:i=9:=by omega
  rw [if_neg (by omega),AO]
theorem Wt{r:AN}(hr:r.AM.length<=1048576):Ew r=some r:=by
 unfold Ew;rw [BP (by unfold lim;omega),List.nil_append]
theorem dI(n:Int):wJ n=some (Lk n):=by
 unfold wJ Lk;rw [Hw,AD,Bg,A7];split <;> rfl
theorem iJ(n:Int):j8 n=some (Ft n):=by
 unfold j8 Ft;rw [dI,AD,Bg,M0,AD,A7];split <;> rfl
theorem iK{r:AN}(hr:r.AM.length<=1048576):Vx r=some (Kx r):=by
 unfold Vx Kx;rw [FE (by omega),AD,Bg,Wt hr,AD,A7];by_cases hb:DY r=true
 .have hk:=BN hb;rw [if_pos hb,if_pos hb];refine B8 (n:=r.AM.length) (fun i (v:AA)=>((i:Int),v)) (fun i v=>v=⟨r,0,1,[],(r.AM.take i).map (fun n=>(Ft n).1),[],[]⟩) (fun _ _=>_) (by omega) ?_ (v:=⟨r,0,1,[],[],[],[]⟩) (by simp);rintro L i v hv hi ih;unfold ab;dsimp only at ih ⊢;rcases Nat.lt_or_ge i r.AM.length with h|h
  .rw [A4 h,BE,Af h,AD,iJ,AD,BP (by rw [hv,Ht];simp;unfold lim;omega),Av h (by omega)];refine ih _ ?_ h;have e:r.AM.take (i+1)=r.AM.take i++[r.AM[i]]:=by rw [List.take_add_one,List.getElem?_eq_getElem h];rfl
   rw [hv,e,List.map_append];rfl
  .obtain rfl:i=r.AM.length:=by omega
   rw [A3,A9,AO,hv,List.take_length];unfold aZ;obtain⟨n,hn⟩:=Int.eq_ofNat_of_zero_le (show 0<=r.Cc by omega);refine B8 (n:=n) (fun i (v:AA)=>((i:Int),v)) (fun i v=>v=⟨r,0,1,[],r.AM.map (fun n=>(Ft n).1),[],List.replicate i (-1)⟩) (fun _ _=>_) (by omega) ?_ (v:=⟨r,0,1,[],r.AM.map (fun n=>(Ft n).1),[],[]⟩) rfl;rintro L j w hw hj ih;unfold ae aa;dsimp only at ih ⊢;have hd:decide ((j:Int)<r.Cc)=decide (j<n):=by rw [hn,dec_lt]
   have hc:r.Cc.toNat=n:=by omega
   rw [hd];rcases Nat.lt_or_ge j n with h'|h'
   .rw [decide_eq_true h',BE,BP (by rw [hw,Ht,List.length_replicate];unfold lim;omega),Av h' (by omega)];refine ih _ ?_ h';rw [hw,List.replicate_succ']
   .obtain rfl:j=n:=by omega
    rw [decide_eq_false (by omega),A9,AO,hw,hc]
 .rw [if_neg hb,if_neg hb]
theorem Xh(n:Int):EZ (Ft n).1:=by
 unfold Ft;split
 .exact⟨by simp,by simp,by simp⟩
 .exact⟨by simp,by simp,by simp⟩
theorem Yd{r:AN}(hr:r.AM.length<=1048576):Ar (Kx r).1:=by
 unfold Kx;split
 .rename_i hb;have hk:=BN hb;refine⟨hr,by simp,by simpa using hr,?_,by simp,?_⟩
  .intro c hc;obtain⟨n,_,rfl⟩:=List.mem_map.1 hc;exact Xh n
  .simp;omega
 .exact⟨by simp,by simp,by simp,by simp,by simp,by simp⟩
end Lv.P
