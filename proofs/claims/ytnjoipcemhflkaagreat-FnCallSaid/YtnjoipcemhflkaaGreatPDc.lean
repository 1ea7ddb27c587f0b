/- Plain laws about what the program computes. -/
import Derived.Test.YtnjoipcemhflkaaGreatPBc
import Derived.Test.YtnjoipcemhflkaaGreatPCc
noncomputable section
set_option linter.unusedVariables false
set_option linter.unusedSimpArgs false
set_option linter.unusedSectionVars false
open Bool renaming not_eq_true->EE
open List renaming flatMap_cons->Cp,length_append->AN,length_cons->AI,length_nil->AP,length_singleton->BZ
open Nat renaming le_refl->Ab,lt_or_ge->AV
namespace Lv.P
open Go (IntKind BinOp UnOp)
theorem M1{α β γ:Type}{l:List α}(f:α->List β)(J:List β->AA γ){F:(List β×Int->AA γ)->List β×Int->AA γ}(e:l.length<=1048576)(m:Nat)(g:∀x,(f x).length<=m){a:List β}
 (step:∀L i (h:i<l.length) v,v.length<=a.length+m*i->F L (v,(i:Int))=L (v++f l[i],w64 ((i:Int)+1))) (stop:∀L v,F L (v,(l.length:Int))=J v):A7 F big (a,0)=J (a++l.flatMap f):=by
 refine(DE (n:=l.length) (fun i (v:List β)=>(v,(i:Int))) (fun i v=>v=a++(l.take i).flatMap f/\v.length<=a.length+m*i) (fun i v=>J (a++l.flatMap f)) (by omega) ?_ ⟨by simp,by simp⟩);rintro L i v ⟨j,c⟩ hi q;rcases AV i l.length with h|h
 .rw[step L i h v c,BX h (by omega)]
  grind[List.take_add_one]
 grind
theorem Em{α β:Type}(f:α->List β){m:Nat}(a:∀x,(f x).length<=m):∀l:List α,(l.flatMap f).length<=m*l.length
 | []=>by simp|x::l=>by
  have:=Em f a l;have:=a x;rw[Cp,AN,AI,Nat.mul_add];omega
def Kn(r:Aa):List Int:=[r.CK,r.Room,r.A5,r.CD,r.Bq,r.Rest,r.CP,r.Cr]++r.AW
def My(p:AQ):List Int:=[p.Id,p.AX,w64 (p.BY+1),p.A5,p.Ci,p.Since,p.As,p.State,p.CW,p.Cn]
def HO(h:AE):List Int:=
 (([((Kn h.AR).length:Int)]++Kn h.AR++[h.Now,h.As,(h.AG.length:Int)]++h.AG.flatMap My)++h.AH.flatMap (fun c=>[c.AW.DP]))++[(h.Az.length:Int)]++h.Az++h.Ay.flatMap (fun x=>[w64 (x+1)])
def AN5(h:AE):List Int:=if Dr h=true then HO h else []
theorem J5{h:AE}(a:Dr h=true):Dd h.AR=true/\(0<=h.Now/\h.Now<=1000000)/\(1<=h.As/\h.As<=1000001)/\h.AG.length<=40/\h.AH.length=h.AR.AW.length/\Kk h=true/\Gr h.Az h.AH.length=true/\JW h.Ay h.AH.length=true/\(h.Ay.length:Int)=h.AR.Cr/\M4 h=true:=by
 grind[Dr,B8]
theorem Td{h:AE}(e:Bf h)(a:Dr h=true):(HO h).length<=2000000:=by
 have g:=J5 a;have E:=B2 g.1;have j:=Em My (m:=10) (fun _=>Ab _) h.AG;have q:=Em (fun c:Ad=>[c.AW.DP]) (m:=1) (fun _=>Ab _) h.AH;have y:=Em (fun x:Int=>[w64 (x+1)]) (m:=1) (fun _=>Ab _) h.Ay;have B:=e.todo;unfold HO Kn;simp only[AN,AI,AP];omega
theorem jN{r:Aa}(c:r.AW.length<=1048576)(a:Dd r=true):AD3 r=some (Kn r):=by
 unfold AD3;rw[Hn (by omega),AB,a,BN,BP,Bt (by simp only[AI,AP];unfold lim;omega)];rfl
theorem SX{r:Aa}(c:r.AW.length<=1048576)(a:Dd r=true):HD r=some (Kn r):=by
 unfold HD;rw[Hh (by omega),AB,a,BN,BP,Bt (by simp only[AI,AP];unfold lim;omega)];rfl
theorem QB(r:Aa):(Kn r).length=8+r.AW.length:=by unfold Kn;simp only[AN,AI,AP]
theorem nI{h:AE}(a:Bf h)(g:Dr h=true):vK h=some (HO h):=by
 have hlim:lim=268435456:=rfl;have j:=J5 g;have X:=B2 j.1;have E:=a.B4;have G:=a.De;have O:=a.todo;have H:=a.E8;have B:∀v:List Int,v.length<=5000000->Vp h v=some (v++[(h.Az.length:Int)]++h.Az++h.Ay.flatMap (fun x=>[w64 (x+1)])):=by
  intro v J;unfold Vp;rw[Bt (by rw[KD];omega),Bt (by rw[AN,BZ];omega)];refine M1 (l:=h.Ay) (fun x=>[w64 (x+1)]) some H 1 (fun _=>Ab _) ?_ ?_
  .grind[cQ,BP,A9,AB,Bt]
  .intro L q;unfold cQ vL;dsimp only;rw[Cc,BS,AT]
 have y:∀v:List Int,v.length<=3000000->Vo h v=some ((v++h.AH.flatMap (fun c=>[c.AW.DP]))++[(h.Az.length:Int)]++h.Az++h.Ay.flatMap (fun x=>[w64 (x+1)])):=by
  intro v J;have I:=Em (fun c:Ad=>[c.AW.DP]) (m:=1) (fun _=>Ab _) h.AH;unfold Vo;rw[M1 (l:=h.AH) (fun c=>[c.AW.DP]) (Vp h) G 1 (fun _=>Ab _) ?_ ?_,B _ (by rw[AN];omega)]
  .grind[cP,BP,A9,AB,Bt]
  .intro L q;unfold cP;dsimp only;rw[Cc,BS,AT]
 have I:=Em My (m:=10) (fun _=>Ab _) h.AG;have S:=QB h.AR;have Y:=a.Df;unfold vK;rw[Hm a,AB,g,BN,BP,jN a.Df j.1,AB,Bt (by rw[BZ];omega),Bt (by simp only[AN,BZ,AI,AP];omega)];rw[M1 (l:=h.AG) My (Vo h) E 10 (fun _=>Ab _) ?_ ?_,y _ (by simp only[AN,BZ,AI,AP];omega)]
 .rfl
 .intro L i hi q e;simp only[AN,BZ,AI,AP]at e;unfold cO;dsimp only;rw[Bw hi,BP,A9 hi,AB,Bt (by simp only[AI,AP];omega)];rfl
 grind[cO,BS,AT]
theorem AHM{h:AE}(a:Bf h)(g:Dr h=true):LJ h=some (HO h):=by
 have hlim:lim=268435456:=rfl;have j:=J5 g;have X:=B2 j.1;have E:=a.B4;have G:=a.De;have O:=a.todo;have H:=a.E8;have B:∀v:List Int,v.length<=5000000->G3 h v=some (v++[(h.Az.length:Int)]++h.Az++h.Ay.flatMap (fun x=>[w64 (x+1)])):=by
  intro v J;unfold G3;rw[Bt (by rw[KD];omega),Bt (by rw[AN,BZ];omega)];refine M1 (l:=h.Ay) (fun x=>[w64 (x+1)]) some H 1 (fun _=>Ab _) ?_ ?_
  .grind[JH,BP,A9,AB,Bt]
  .intro L q;unfold JH Mo;dsimp only;rw[Cc,BS,AT]
 have y:∀v:List Int,v.length<=3000000->G2 h v=some ((v++h.AH.flatMap (fun c=>[c.AW.DP]))++[(h.Az.length:Int)]++h.Az++h.Ay.flatMap (fun x=>[w64 (x+1)])):=by
  intro v J;have I:=Em (fun c:Ad=>[c.AW.DP]) (m:=1) (fun _=>Ab _) h.AH;unfold G2;rw[M1 (l:=h.AH) (fun c=>[c.AW.DP]) (G3 h) G 1 (fun _=>Ab _) ?_ ?_,B _ (by rw[AN];omega)]
  .grind[JG,BP,A9,AB,Bt]
  .intro L q;unfold JG;dsimp only;rw[Cc,BS,AT]
 have I:=Em My (m:=10) (fun _=>Ab _) h.AG;have S:=QB h.AR;have Y:=a.Df;unfold LJ;rw[GW a,AB,g,BN,BP,SX a.Df j.1,AB,Bt (by rw[BZ];omega),Bt (by simp only[AN,BZ,AI,AP];omega)];rw[M1 (l:=h.AG) My (G2 h) E 10 (fun _=>Ab _) ?_ ?_,y _ (by simp only[AN,BZ,AI,AP];omega)]
 .rfl
 .intro L i hi q e;simp only[AN,BZ,AI,AP]at e;unfold JF;dsimp only;rw[Bw hi,BP,A9 hi,AB,Bt (by simp only[AI,AP];omega)];rfl
 grind[JF,BS,AT]
theorem ACA{h:AE}(a:Bf h)(g:Dr h=true):G1 h=some (HO h):=by
 have hlim:lim=268435456:=rfl;have j:=J5 g;have X:=B2 j.1;have E:=a.B4;have G:=a.De;have O:=a.todo;have H:=a.E8;have B:∀v:List Int,v.length<=5000000->FX h v=some (v++[(h.Az.length:Int)]++h.Az++h.Ay.flatMap (fun x=>[w64 (x+1)])):=by
  intro v J;unfold FX;rw[Bt (by rw[KD];omega),Bt (by rw[AN,BZ];omega)];refine M1 (l:=h.Ay) (fun x=>[w64 (x+1)]) some H 1 (fun _=>Ab _) ?_ ?_
  .grind[HZ,BP,A9,AB,Bt]
  .intro L q;unfold HZ KU;dsimp only;rw[Cc,BS,AT]
 have y:∀v:List Int,v.length<=3000000->FW h v=some ((v++h.AH.flatMap (fun c=>[c.AW.DP]))++[(h.Az.length:Int)]++h.Az++h.Ay.flatMap (fun x=>[w64 (x+1)])):=by
  intro v J;have I:=Em (fun c:Ad=>[c.AW.DP]) (m:=1) (fun _=>Ab _) h.AH;unfold FW;rw[M1 (l:=h.AH) (fun c=>[c.AW.DP]) (FX h) G 1 (fun _=>Ab _) ?_ ?_,B _ (by rw[AN];omega)]
  .grind[HY,BP,A9,AB,Bt]
  .intro L q;unfold HY;dsimp only;rw[Cc,BS,AT]
 have I:=Em My (m:=10) (fun _=>Ab _) h.AG;have S:=QB h.AR;have Y:=a.Df;unfold G1;rw[GW a,AB,g,BN,BP,SX a.Df j.1,AB,Bt (by rw[BZ];omega),Bt (by simp only[AN,BZ,AI,AP];omega)];rw[M1 (l:=h.AG) My (FW h) E 10 (fun _=>Ab _) ?_ ?_,y _ (by simp only[AN,BZ,AI,AP];omega)]
 .rfl
 .intro L i hi q e;simp only[AN,BZ,AI,AP]at e;unfold HX;dsimp only;rw[Bw hi,BP,A9 hi,AB,Bt (by simp only[AI,AP];omega)];rfl
 grind[HX,BS,AT]
def On(h:AE)(q:Int):List UInt8:=if Dr h=true/\inB q 0 1000000=true then four ((KL (pL (q::HO h)):Nat):Int)++pL (q::HO h) else []
theorem W0:∀l:List Int,(pL l).length<=5*l.length
 | []=>by simp[pL]|x::l=>by
  have:=W0 l;have:=Q6 x;unfold pL at *;rw[Cp,AN,AI];omega
theorem Lg{h:AE}(c:Bf h)(q:Int):kx h q=some (On h q):=by
 have hlim:lim=268435456:=rfl;have hslim:OE=4611686018427387904:=rfl;unfold kx On;rw[Hm c,AB,BN,AT,GC,AB,AT];by_cases a:Dr h=true
 .have j:=Td c a;have e:=W0 (q::HO h);rw[AI]at e;rw[a,BP];unfold cX;rw[BN,nI c a,AB,Bt (by rw[BZ];omega),List.singleton_append,XR (by rw[AI];omega),AB,z7 (by omega),AB];unfold vS;rw[AB];cases y:inB q 0 1000000 with
  |false=>rfl|true=>
   rw[BP,Bt (by simp only[AI,AP];omega),if_pos ⟨rfl,rfl⟩];rfl
 .rw[if_neg (fun g=>a g.1)];rw[EE]at a;rw[a,BS];rfl
theorem UB{h:AE}(c:Bf h)(q:Int):Jg h q=some (On h q):=by
 have hslim:OE=4611686018427387904:=rfl;unfold Jg On orE;by_cases a:Dr h=true
 .have H:=Td c a;have B:=W0 (q::HO h);rw[AI]at B;have G:=Q6 q;have E:=W0 (HO h);have y:(HO h).isEmpty=false:=by
   unfold HO;simp
  have j:pN q++pL (HO h)=pL (q::HO h):=rfl;have e:Ft h q=some (if inB q 0 1000000=true then four ((KL (pL (q::HO h)):Nat):Int)++pL (q::HO h) else []):=by
   unfold Ft;rw[ACA c a,AB,Bt y,FE,AB,BN];cases I:inB q 0 1000000 with
   |false=>rfl|true=>
    rw[BP,J6,AB,Wq (by omega),AB,Bt (by omega),j,ym (by omega),AB,Bt (by simp only[AI,AP];omega)];rfl
  grind
 .rw[if_neg (fun g=>a g.1)];rw[EE]at a;have e:Ft h q=none:=by
   unfold Ft G1;rw[GW c,AB,a,BN,BS,AQc]
  rw[e];dsimp only;unfold Nj Mn;rw[GW c,AB,a,BN,BS,AB]
inductive AJR{α:Type}(Q:Int->α->Int->Prop):Int->List α->Int->Prop|nil(k:Int):AJR Q k [] k|cons {k k1 k2:Int} {x:α} {l:List α} (h:Q k x k1) (t:AJR Q k1 l k2):AJR Q k (x::l) k2
section
variable{α:Type}{Q:Int->α->Int->Prop}
end
theorem AQH{t:List Int}{n:Nat}(e:n<=4)(h:Gr t n=true):t.length<=4:=by
 unfold Gr at h;rw[JY]at h;refine Classical.byContradiction fun a=>?_
 have key:∀i (hi:i<t.length),0<=t[i]/\t[i]<n/\∀j (c:j<i),t[j]'(by omega)≠t[i]:=by
  grind[TB,CC,B8,A4,List.mem_take_iff_getElem]
 have g:=key 0 (by omega);have q:=key 1 (by omega);have y:=key 2 (by omega);have B:=key 3 (by omega);have E:=key 4 (by omega)
 grind
theorem AHU{h:AE}:(AN5 h).length<=500:=by
 unfold AN5;split
 .rename_i e;have a:=J5 e;have B:=B2 a.1;have g:=Em My (m:=10) (fun _=>Ab _) h.AG;have j:=Em (fun c:Ad=>[c.AW.DP]) (m:=1) (fun _=>Ab _) h.AH;have q:=Em (fun x:Int=>[w64 (x+1)]) (m:=1) (fun _=>Ab _) h.Ay;have y:=AQH (t:=h.Az) (n:=h.AH.length) (by omega) a.2.2.2.2.2.2.1;unfold HO Kn;simp only[AN,AI,AP];omega
 .simp
def Ta(n:Int):A3×Bool:=if EW ⟨n,0,0,n,0⟩=true then (⟨n,0,0,n,0⟩,true) else (⟨0,0,0,0,0⟩,false)
def Lm(n:Int):Ad×Bool:=if (Ta n).2=true then (⟨(Ta n).1,[],⟨List.replicate 9 []⟩⟩,true) else (⟨⟨0,0,0,0,0⟩,[],⟨[]⟩⟩,false)
def Io(r:Aa):AE×Bool:=
 if Dd r=true then (⟨r,0,1,[],r.AW.map (fun n=>(Lm n).1),[],List.replicate r.Cr.toNat (-1)⟩,true) else (⟨⟨[],0,0,0,0,0,0,0,0⟩,0,0,[],[],[],[]⟩,false)
theorem Q0:bw=some ⟨List.replicate 9 []⟩:=by
 unfold bw;refine(DE (n:=9) (fun i (v:Aj)=>((i:Int),v)) (fun i v=>v.Ag=List.replicate i []) (fun _ _=>some (⟨List.replicate 9 []⟩:Aj)) (by omega) ?_ (v:=⟨[]⟩) rfl);rintro L i ⟨s⟩ a hi c
 grind[ux,uw,BJ,Bt,lim,BX,List.replicate_succ',AT]
theorem ACJ:RW=some ⟨List.replicate 9 []⟩:=rfl
theorem ma{r:Aa}(a:r.AW.length<=1048576):GB r=some r:=by
 unfold GB;rw[Bt (by unfold lim;omega),List.nil_append]
theorem AHT{r:Aa}(a:r.AW.length<=1048576):vC r=some r:=by
 unfold vC KZ;rw[Bt (by unfold lim;omega),AB]
theorem y9(n:Int):ADw n=some (Ta n):=by
 unfold ADw Ta;rw[PE,AB,BN,Bb];split<;>rfl
theorem ACI(n:Int):ADx n=some (Lm n):=by
 grind[ADx,Lm,y9,AB,Q0,Bb]
theorem iO{r:Aa}(q:r.AW.length<=1048576):kq r=some (Io r):=by
 unfold kq Io;rw[Hn (by omega),AB,BN,ma q,AB,Bb];by_cases a:Dd r=true
 .have B:=B2 a;rw[if_pos a,if_pos a];refine DE (n:=r.AW.length) (fun i (v:AE)=>((i:Int),v)) (fun i v=>v=⟨r,0,1,[],(r.AW.take i).map (fun n=>(Lm n).1),[],[]⟩) (fun _ _=>_) (by omega) ?_ (v:=⟨r,0,1,[],[],[],[]⟩) (by simp);rintro L i v c hi g;unfold vA;dsimp only at g ⊢;rcases AV i r.AW.length with h|h
  .rw[Bw h,BP,A9 h,AB,ACI,AB,Bt (by rw[c,KD];simp;unfold lim;omega),BX h (by omega)];refine g _ ?_ h;have e:r.AW.take (i+1)=r.AW.take i++[r.AW[i]]:=by rw[List.take_add_one,List.getElem?_eq_getElem h];rfl
   rw[c,e,List.map_append];rfl
  .obtain rfl:i=r.AW.length:=by omega
   rw[Cc,BS,AT,c,List.take_length];unfold uy;obtain⟨n,E⟩:=Int.eq_ofNat_of_zero_le (show 0<=r.Cr by omega);refine DE (n:=n) (fun i (v:AE)=>((i:Int),v)) (fun i v=>v=⟨r,0,1,[],r.AW.map (fun n=>(Lm n).1),[],List.replicate i (-1)⟩) (fun _ _=>_) (by omega) ?_ (v:=⟨r,0,1,[],r.AW.map (fun n=>(Lm n).1),[],[]⟩) rfl;rintro L j w G y g;unfold vB uz
   grind[BP,Bt,lim,BX,List.replicate_succ',BS,AT]
 .rw[if_neg a,if_neg a]
theorem ny(n:Int):EU (Lm n).1:=by
 unfold Lm;split
 .exact⟨by simp,by simp,by simp⟩
 .exact⟨by simp,by simp,by simp⟩
theorem Qp{r:Aa}(a:r.AW.length<=1048576):Bf (Io r).1:=by
 unfold Io;split
 .rename_i c;have e:=B2 c;refine⟨a,by simp,by simpa using a,?_,by simp,?_⟩
  .grind[ny]
  .simp;omega
 .exact⟨by simp,by simp,by simp,by simp,by simp,by simp⟩
def Hg:Ap:=⟨⟨⟨[],0,0,0,0,0,0,0,0⟩,0,0,[],[],[],[]⟩,⟨⟨[],0⟩,⟨[],0⟩,⟨[],0⟩⟩,0,[]⟩
def LK(r:Aa):Ap×Bool:=
 if (Io r).2=true then (⟨(Io r).1,⟨⟨[],0⟩,⟨On (Io r).1 0,((On (Io r).1 0).length:Int)⟩,⟨[],0⟩⟩,0,[]⟩,true) else (Hg,false)
theorem NU(h:AE)(q:Int):(On h q).length<=2600:=by
 unfold On;split
 .rename_i c;have a:=AHU (h:=h);unfold AN5 at a
  grind[W0,Ht]
 .simp
theorem y8{r:Aa}(a:r.AW.length<=1048576):ADy r=some (LK r):=by
 unfold ADy LK;rw[iO a,AB,BN,Lg (Qp a),AB,Bb];split<;>rfl
theorem jv{r:Aa}(a:r.AW.length<=1048576):CR (LK r).1:=by
 have c:=NU (Io r).1 0;unfold LK;split
 .exact⟨Qp a,by simp,by dsimp only;omega,by simp,by simp⟩
 .exact⟨⟨by simp[Hg],by simp[Hg],by simp[Hg],by simp[Hg],by simp[Hg],by simp[Hg]⟩,by simp[Hg],by simp[Hg],by simp[Hg],by simp[Hg]⟩
end Lv.P
