/- Plain laws about what the program computes. -/
import Derived.Test.YtcmjfplpdjflnaaGreatPBc
import Derived.Test.YtcmjfplpdjflnaaGreatPCc
noncomputable section
set_option linter.unusedVariables false
set_option linter.unusedSimpArgs false
set_option linter.unusedSectionVars false
open Bool renaming not_eq_true->El
open List renaming flatMap_cons->Ca,length_append->AK,length_cons->AH,length_nil->AN,length_singleton->Bp
open Nat renaming le_refl->Ad,lt_or_ge->AV
namespace Lv.P
open Go (IntKind BinOp UnOp)
theorem M6{α β γ:Type}{l:List α}(f:α->List β)(J:List β->AA γ){F:(List β×Int->AA γ)->List β×Int->AA γ}(e:l.length<=1048576)(m:Nat)(g:∀x,(f x).length<=m){a:List β}
 (step:∀L i (h:i<l.length) v,v.length<=a.length+m*i->F L (v,(i:Int))=L (v++f l[i],w64 ((i:Int)+1))) (stop:∀L v,F L (v,(l.length:Int))=J v):BB F big (a,0)=J (a++l.flatMap f):=by
 refine(C9 (n:=l.length) (fun i (v:List β)=>(v,(i:Int))) (fun i v=>v=a++(l.take i).flatMap f/\v.length<=a.length+m*i) (fun i v=>J (a++l.flatMap f)) (by omega) ?_ ⟨by simp,by simp⟩);rintro L i v ⟨j,c⟩ hi q;rcases AV i l.length with h|h
 .rw[step L i h v c,Bg h (by omega)]
  grind[List.take_add_one]
 grind
theorem FU{α β:Type}(f:α->List β){m:Nat}(a:∀x,(f x).length<=m):∀l:List α,(l.flatMap f).length<=m*l.length
 | []=>by simp|x::l=>by
  have:=FU f a l;have:=a x;rw[Ca,AK,AH,Nat.mul_add];omega
def KV(r:Ab):List Int:=[r.CX,r.Room,r.BC,r.CQ,r.B3,r.Rest,r.Cb,r.C5]++r.AY
def LK(p:AQ):List Int:=[p.Id,p.Aa,w64 (p.Bl+1),p.BC,p.Cs,p.Since,p.Av,p.State,p.Ci,p.C0]
def F7(h:AE):List Int:=
 (([((KV h.AS).length:Int)]++KV h.AS++[h.Now,h.Av,(h.AG.length:Int)]++h.AG.flatMap LK)++h.AI.flatMap (fun c=>[c.AY.Dh]))++[(h.BA.length:Int)]++h.BA++h.A4.flatMap (fun x=>[w64 (x+1)])
def ARj(h:AE):List Int:=if DE h=true then F7 h else []
theorem JI{h:AE}(a:DE h=true):D7 h.AS=true/\(0<=h.Now/\h.Now<=1000000)/\(1<=h.Av/\h.Av<=1000001)/\h.AG.length<=40/\h.AI.length=h.AS.AY.length/\Kt h=true/\JD h.BA h.AI.length=true/\M4 h.A4 h.AI.length=true/\(h.A4.length:Int)=h.AS.C5/\M8 h=true:=by
 grind[DE,CP]
theorem T2{h:AE}(e:Bk h)(a:DE h=true):(F7 h).length<=2000000:=by
 have g:=JI a;have E:=CK g.1;have j:=FU LK (m:=10) (fun _=>Ad _) h.AG;have q:=FU (fun c:Ae=>[c.AY.Dh]) (m:=1) (fun _=>Ad _) h.AI;have y:=FU (fun x:Int=>[w64 (x+1)]) (m:=1) (fun _=>Ad _) h.A4;have B:=e.todo;unfold F7 KV;simp only[AK,AH,AN];omega
theorem mS{r:Ab}(c:r.AY.length<=1048576)(a:D7 r=true):AG1 r=some (KV r):=by
 unfold AG1;rw[IH (by omega),AB,a,BP,BJ,B6 (by simp only[AH,AN];unfold lim;omega)];rfl
theorem S5{r:Ab}(c:r.AY.length<=1048576)(a:D7 r=true):oI r=some (KV r):=by
 unfold oI;rw[IB (by omega),AB,a,BP,BJ,B6 (by simp only[AH,AN];unfold lim;omega)];rfl
theorem Lf(r:Ab):(KV r).length=8+r.AY.length:=by unfold KV;simp only[AK,AH,AN]
theorem rN{h:AE}(a:Bk h)(g:DE h=true):zD h=some (F7 h):=by
 have hlim:lim=268435456:=rfl;have j:=JI g;have X:=CK j.1;have E:=a.CJ;have G:=a.EL;have O:=a.todo;have H:=a.GV;have B:∀v:List Int,v.length<=5000000->WM h v=some (v++[(h.BA.length:Int)]++h.BA++h.A4.flatMap (fun x=>[w64 (x+1)])):=by
  intro v J;unfold WM;rw[B6 (by rw[Ka];omega),B6 (by rw[AK,Bp];omega)];refine M6 (l:=h.A4) (fun x=>[w64 (x+1)]) some H 1 (fun _=>Ad _) ?_ ?_
  .grind[eX,BJ,BH,AB,B6]
  .intro L q;unfold eX zE;dsimp only;rw[Cl,BT,AR]
 have y:∀v:List Int,v.length<=3000000->WL h v=some ((v++h.AI.flatMap (fun c=>[c.AY.Dh]))++[(h.BA.length:Int)]++h.BA++h.A4.flatMap (fun x=>[w64 (x+1)])):=by
  intro v J;have I:=FU (fun c:Ae=>[c.AY.Dh]) (m:=1) (fun _=>Ad _) h.AI;unfold WL;rw[M6 (l:=h.AI) (fun c=>[c.AY.Dh]) (WM h) G 1 (fun _=>Ad _) ?_ ?_,B _ (by rw[AK];omega)]
  .grind[eW,BJ,BH,AB,B6]
  .intro L q;unfold eW;dsimp only;rw[Cl,BT,AR]
 have I:=FU LK (m:=10) (fun _=>Ad _) h.AG;have S:=Lf h.AS;have Y:=a.Dj;unfold zD;rw[GK a,AB,g,BP,BJ,mS a.Dj j.1,AB,B6 (by rw[Bp];omega),B6 (by simp only[AK,Bp,AH,AN];omega)];rw[M6 (l:=h.AG) LK (WL h) E 10 (fun _=>Ad _) ?_ ?_,y _ (by simp only[AK,Bp,AH,AN];omega)]
 .rfl
 .intro L i hi q e;simp only[AK,Bp,AH,AN]at e;unfold eV;dsimp only;rw[B7 hi,BJ,BH hi,AB,B6 (by simp only[AH,AN];omega)];rfl
 grind[eV,BT,AR]
theorem AKW{h:AE}(a:Bk h)(g:DE h=true):AGx h=some (F7 h):=by
 have hlim:lim=268435456:=rfl;have j:=JI g;have X:=CK j.1;have E:=a.CJ;have G:=a.EL;have O:=a.todo;have H:=a.GV;have B:∀v:List Int,v.length<=5000000->WE h v=some (v++[(h.BA.length:Int)]++h.BA++h.A4.flatMap (fun x=>[w64 (x+1)])):=by
  intro v J;unfold WE;rw[B6 (by rw[Ka];omega),B6 (by rw[AK,Bp];omega)];refine M6 (l:=h.A4) (fun x=>[w64 (x+1)]) some H 1 (fun _=>Ad _) ?_ ?_
  .grind[eE,BJ,BH,AB,B6]
  .intro L q;unfold eE yz;dsimp only;rw[Cl,BT,AR]
 have y:∀v:List Int,v.length<=3000000->WD h v=some ((v++h.AI.flatMap (fun c=>[c.AY.Dh]))++[(h.BA.length:Int)]++h.BA++h.A4.flatMap (fun x=>[w64 (x+1)])):=by
  intro v J;have I:=FU (fun c:Ae=>[c.AY.Dh]) (m:=1) (fun _=>Ad _) h.AI;unfold WD;rw[M6 (l:=h.AI) (fun c=>[c.AY.Dh]) (WE h) G 1 (fun _=>Ad _) ?_ ?_,B _ (by rw[AK];omega)]
  .grind[eD,BJ,BH,AB,B6]
  .intro L q;unfold eD;dsimp only;rw[Cl,BT,AR]
 have I:=FU LK (m:=10) (fun _=>Ad _) h.AG;have S:=Lf h.AS;have Y:=a.Dj;unfold AGx;rw[Fh a,AB,g,BP,BJ,S5 a.Dj j.1,AB,B6 (by rw[Bp];omega),B6 (by simp only[AK,Bp,AH,AN];omega)];rw[M6 (l:=h.AG) LK (WD h) E 10 (fun _=>Ad _) ?_ ?_,y _ (by simp only[AK,Bp,AH,AN];omega)]
 .rfl
 .intro L i hi q e;simp only[AK,Bp,AH,AN]at e;unfold eC;dsimp only;rw[B7 hi,BJ,BH hi,AB,B6 (by simp only[AH,AN];omega)];rfl
 grind[eC,BT,AR]
theorem AE6{h:AE}(a:Bk h)(g:DE h=true):zM h=some (F7 h):=by
 have hlim:lim=268435456:=rfl;have j:=JI g;have X:=CK j.1;have E:=a.CJ;have G:=a.EL;have O:=a.todo;have H:=a.GV;have B:∀v:List Int,v.length<=5000000->WO h v=some (v++[(h.BA.length:Int)]++h.BA++h.A4.flatMap (fun x=>[w64 (x+1)])):=by
  intro v J;unfold WO;rw[B6 (by rw[Ka];omega),B6 (by rw[AK,Bp];omega)];refine M6 (l:=h.A4) (fun x=>[w64 (x+1)]) some H 1 (fun _=>Ad _) ?_ ?_
  .grind[fF,BJ,BH,AB,B6]
  .intro L q;unfold fF zN;dsimp only;rw[Cl,BT,AR]
 have y:∀v:List Int,v.length<=3000000->WN h v=some ((v++h.AI.flatMap (fun c=>[c.AY.Dh]))++[(h.BA.length:Int)]++h.BA++h.A4.flatMap (fun x=>[w64 (x+1)])):=by
  intro v J;have I:=FU (fun c:Ae=>[c.AY.Dh]) (m:=1) (fun _=>Ad _) h.AI;unfold WN;rw[M6 (l:=h.AI) (fun c=>[c.AY.Dh]) (WO h) G 1 (fun _=>Ad _) ?_ ?_,B _ (by rw[AK];omega)]
  .grind[fE,BJ,BH,AB,B6]
  .intro L q;unfold fE;dsimp only;rw[Cl,BT,AR]
 have I:=FU LK (m:=10) (fun _=>Ad _) h.AG;have S:=Lf h.AS;have Y:=a.Dj;unfold zM;rw[Fh a,AB,g,BP,BJ,S5 a.Dj j.1,AB,B6 (by rw[Bp];omega),B6 (by simp only[AK,Bp,AH,AN];omega)];rw[M6 (l:=h.AG) LK (WN h) E 10 (fun _=>Ad _) ?_ ?_,y _ (by simp only[AK,Bp,AH,AN];omega)]
 .rfl
 .intro L i hi q e;simp only[AK,Bp,AH,AN]at e;unfold fD;dsimp only;rw[B7 hi,BJ,BH hi,AB,B6 (by simp only[AH,AN];omega)];rfl
 grind[fD,BT,AR]
def Et(h:AE)(q:Int):List UInt8:=if DE h=true/\inB q 0 1000000=true then four ((KO (pL (q::F7 h)):Nat):Int)++pL (q::F7 h) else []
theorem Xl:∀l:List Int,(pL l).length<=5*l.length
 | []=>by simp[pL]|x::l=>by
  have:=Xl l;have:=PL x;unfold pL at *;rw[Ca,AK,AH];omega
theorem Jv{h:AE}(c:Bk h)(q:Int):oH h q=some (Et h q):=by
 have hlim:lim=268435456:=rfl;have hslim:OI=4611686018427387904:=rfl;unfold oH Et;rw[GK c,AB,BP,AR,GN,AB,AR];by_cases a:DE h=true
 .have j:=T2 c a;have e:=Xl (q::F7 h);rw[AH]at e;rw[a,BJ];unfold fC;rw[BP,rN c a,AB,B6 (by rw[Bp];omega),List.singleton_append,YJ (by rw[AH];omega),AB,AC1 (by omega),AB];unfold zL;rw[AB];cases y:inB q 0 1000000 with
  |false=>rfl|true=>
   rw[BJ,B6 (by simp only[AH,AN];omega),AX ⟨rfl,rfl⟩];rfl
 .rw[AU (fun g=>a g.1)];rw[El]at a;rw[a,BT];rfl
theorem Uf{h:AE}(c:Bk h)(q:Int):yy h q=some (Et h q):=by
 have hslim:OI=4611686018427387904:=rfl;unfold yy Et orE;by_cases a:DE h=true
 .have H:=T2 c a;have B:=Xl (q::F7 h);rw[AH]at B;have G:=PL q;have E:=Xl (F7 h);have y:(F7 h).isEmpty=false:=by
   unfold F7;simp
  have j:pN q++pL (F7 h)=pL (q::F7 h):=rfl;have e:oD h q=some (if inB q 0 1000000=true then four ((KO (pL (q::F7 h)):Nat):Int)++pL (q::F7 h) else []):=by
   unfold oD;rw[AE6 c a,AB,B6 y,Fq,AB,BP];cases I:inB q 0 1000000 with
   |false=>rfl|true=>
    rw[BJ,KQ,AB,XZ (by omega),AB,B6 (by omega),j,ABy (by omega),AB,B6 (by simp only[AH,AN];omega)];rfl
  grind
 .rw[AU (fun g=>a g.1)];rw[El]at a;have e:oD h q=none:=by
   unfold oD zM;rw[Fh c,AB,a,BP,BT,AUR]
  rw[e];dsimp only;unfold AGw ANI;rw[Fh c,AB,a,BP,BT,AB]
section
variable{α:Type}{Q:Int->α->Int->Prop}
end
theorem AT4{t:List Int}{n:Nat}(e:n<=4)(h:JD t n=true):t.length<=4:=by
 unfold JD at h;rw[JT]at h;refine Classical.byContradiction fun a=>?_
 have key:∀i (hi:i<t.length),0<=t[i]/\t[i]<n/\∀j (c:j<i),t[j]'(by omega)≠t[i]:=by
  grind[RY,CR,CP,A6,List.mem_take_iff_getElem]
 have g:=key 0 (by omega);have q:=key 1 (by omega);have y:=key 2 (by omega);have B:=key 3 (by omega);have E:=key 4 (by omega)
 grind
theorem AKi{h:AE}:(ARj h).length<=500:=by
 unfold ARj;split
 .rename_i e;have a:=JI e;have B:=CK a.1;have g:=FU LK (m:=10) (fun _=>Ad _) h.AG;have j:=FU (fun c:Ae=>[c.AY.Dh]) (m:=1) (fun _=>Ad _) h.AI;have q:=FU (fun x:Int=>[w64 (x+1)]) (m:=1) (fun _=>Ad _) h.A4;have y:=AT4 (t:=h.BA) (n:=h.AI.length) (by omega) a.2.2.2.2.2.2.1;unfold F7 KV;simp only[AK,AH,AN];omega
 .simp
def Tz(n:Int):BE×Bool:=if FL ⟨n,0,0,n,0⟩=true then (⟨n,0,0,n,0⟩,true) else (⟨0,0,0,0,0⟩,false)
def Lx(n:Int):Ae×Bool:=if (Tz n).2=true then (⟨(Tz n).1,[],⟨List.replicate 9 []⟩⟩,true) else (⟨⟨0,0,0,0,0⟩,[],⟨[]⟩⟩,false)
def I6(r:Ab):AE×Bool:=
 if D7 r=true then (⟨r,0,1,[],r.AY.map (fun n=>(Lx n).1),[],List.replicate r.C5.toNat (-1)⟩,true) else (⟨⟨[],0,0,0,0,0,0,0,0⟩,0,0,[],[],[],[]⟩,false)
theorem Q9:fQ=some ⟨List.replicate 9 []⟩:=by
 unfold fQ;refine(C9 (n:=9) (fun i (v:Aq)=>((i:Int),v)) (fun i v=>v.Am=List.replicate i []) (fun _ _=>some (⟨List.replicate 9 []⟩:Aq)) (by omega) ?_ (v:=⟨[]⟩) rfl);rintro L i ⟨s⟩ a hi c
 grind[zZ,zY,BL,B6,lim,Bg,List.replicate_succ',AR]
theorem AFI:ANR=some ⟨List.replicate 9 []⟩:=rfl
theorem qQ{r:Ab}(a:r.AY.length<=1048576):Gr r=some r:=by
 unfold Gr;rw[B6 (by unfold lim;omega),List.nil_append]
theorem AKh{r:Ab}(a:r.AY.length<=1048576):ze r=some r:=by
 unfold ze Kk;rw[B6 (by unfold lim;omega),AB]
theorem ACD(n:Int):AGy n=some (Tz n):=by
 unfold AGy Tz;rw[PM,AB,BP,Bn];split<;>rfl
theorem AFH(n:Int):AG5 n=some (Lx n):=by
 grind[AG5,Lx,ACD,AB,Q9,Bn]
theorem lK{r:Ab}(q:r.AY.length<=1048576):oM r=some (I6 r):=by
 unfold oM I6;rw[IH (by omega),AB,BP,qQ q,AB,Bn];by_cases a:D7 r=true
 .have B:=CK a;rw[AX a,AX a];refine C9 (n:=r.AY.length) (fun i (v:AE)=>((i:Int),v)) (fun i v=>v=⟨r,0,1,[],(r.AY.take i).map (fun n=>(Lx n).1),[],[]⟩) (fun _ _=>_) (by omega) ?_ (v:=⟨r,0,1,[],[],[],[]⟩) (by simp);rintro L i v c hi g;unfold zc;dsimp only at g ⊢;rcases AV i r.AY.length with h|h
  .rw[B7 h,BJ,BH h,AB,AFH,AB,B6 (by rw[c,Ka];simp;unfold lim;omega),Bg h (by omega)];refine g _ ?_ h;have e:r.AY.take (i+1)=r.AY.take i++[r.AY[i]]:=by rw[List.take_add_one,List.getElem?_eq_getElem h];rfl
   rw[c,e,List.map_append];rfl
  .obtain rfl:i=r.AY.length:=by omega
   rw[Cl,BT,AR,c,List.take_length];unfold za;obtain⟨n,E⟩:=Int.eq_ofNat_of_zero_le (show 0<=r.C5 by omega);refine C9 (n:=n) (fun i (v:AE)=>((i:Int),v)) (fun i v=>v=⟨r,0,1,[],r.AY.map (fun n=>(Lx n).1),[],List.replicate i (-1)⟩) (fun _ _=>_) (by omega) ?_ (v:=⟨r,0,1,[],r.AY.map (fun n=>(Lx n).1),[],[]⟩) rfl;rintro L j w G y g;unfold zd zb
   grind[BJ,B6,lim,Bg,List.replicate_succ',BT,AR]
 .rw[AU a,AU a]
theorem sH(n:Int):EE (Lx n).1:=by
 unfold Lx;split
 .exact⟨by simp,by simp,by simp⟩
 .exact⟨by simp,by simp,by simp⟩
theorem Qy{r:Ab}(a:r.AY.length<=1048576):Bk (I6 r).1:=by
 unfold I6;split
 .rename_i c;have e:=CK c;refine⟨a,by simp,by simpa using a,?_,by simp,?_⟩
  .grind[sH]
  .simp;omega
 .exact⟨by simp,by simp,by simp,by simp,by simp,by simp⟩
def H9:Af:=⟨⟨⟨[],0,0,0,0,0,0,0,0⟩,0,0,[],[],[],[]⟩,⟨⟨[],0⟩,⟨[],0⟩,⟨[],0⟩⟩,0,[]⟩
def LS(r:Ab):Af×Bool:=
 if (I6 r).2=true then (⟨(I6 r).1,⟨⟨[],0⟩,⟨Et (I6 r).1 0,((Et (I6 r).1 0).length:Int)⟩,⟨[],0⟩⟩,0,[]⟩,true) else (H9,false)
theorem IX(h:AE)(q:Int):(Et h q).length<=2600:=by
 unfold Et;split
 .rename_i c;have a:=AKi (h:=h);unfold ARj at a
  grind[Xl,G4]
 .simp
theorem ACC{r:Ab}(a:r.AY.length<=1048576):AG6 r=some (LS r):=by
 unfold AG6 LS;rw[lK a,AB,BP,Jv (Qy a),AB,Bn];split<;>rfl
theorem nD{r:Ab}(a:r.AY.length<=1048576):B5 (LS r).1:=by
 have c:=IX (I6 r).1 0;unfold LS;split
 .exact⟨Qy a,by simp,by dsimp only;omega,by simp,by simp⟩
 .exact⟨⟨by simp[H9],by simp[H9],by simp[H9],by simp[H9],by simp[H9],by simp[H9]⟩,by simp[H9],by simp[H9],by simp[H9],by simp[H9]⟩
end Lv.P
