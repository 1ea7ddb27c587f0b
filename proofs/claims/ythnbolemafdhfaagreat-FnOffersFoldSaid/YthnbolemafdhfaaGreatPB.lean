/-
  Plain laws: wheels are right for both alike, and their pins in order.
-/
import Derived.Test.YthnbolemafdhfaaGreatPA
set_option linter.unusedVariables false
set_option linter.unusedSimpArgs false
set_option linter.unusedSectionVars false
namespace Lv.P
open Go (IntKind BinOp UnOp)
def ZC(p:Ag):Bool:=inB p.At 1 1000008&&inB p.Id 1 999
structure Ho(w:AU):Prop where
 nine:w.AP.length=9
 few:w.AP.flatten.length<=10
 pins:∀p∈w.AP.flatten,ZC p=true
 ids:w.AP.flatten.Pairwise fun a b=>a.Id≠b.Id
 at_:∀i (h:i<w.AP.length) k (hk:k<w.AP[i].length),w.AP[i][k].At.tmod 9=(i:Int)
 srt:∀i (h:i<w.AP.length) k (hk:k+1<w.AP[i].length),ltP w.AP[i][k] w.AP[i][k+1]=true
noncomputable def FJ(w:AU):Bool:=@decide (Ho w) (Classical.propDecidable _)
theorem B1{w:AU}:FJ w=true↔Ho w:=by unfold FJ;exact @decide_eq_true_iff _ (Classical.propDecidable _)
def CD(w:AU):Prop:=w.AP.length<=1048576/\w.AP.flatten.length<=1048576
theorem cC{α:Type}{l:List (List α)}{i:Nat}(h:i<l.length):(l.take i).flatten.length+l[i].length<=l.flatten.length:=by
 have:l.flatten=(l.take i).flatten++(l[i]++(l.drop (i+1)).flatten):=by
  rw [<-List.flatten_cons,<-List.flatten_append,<-Ch h,List.take_append_drop]
 rw [this];simp
theorem Ir{l:List (List Ag)}{i:Nat}(h:i<l.length):l[i].length<=l.flatten.length:=by have:=cC h;omega
theorem VE{w:AU}(hw:CD w):rH w=some w.AP.flatten:=by
 have hlim:lim=268435456:=rfl;have h1:=hw.1;have h2:=hw.2;unfold rH;refine(B8 (n:=w.AP.length) (fun i (v:List Ag)=>(v,(i:Int))) (fun i v=>v=(w.AP.take i).flatten) (fun i v=>some w.AP.flatten) (by omega) ?_ (by simp));intro L i v hv hi ih;unfold lC lB;dsimp only;rcases Nat.lt_or_ge i w.AP.length with h|h
 .have:=cC h;rw [A4 h,BE,Af h,AD,BP (by rw [hv];omega),Av h (by omega)];refine ih _ ?_ h;rw [hv,List.take_add_one,List.getElem?_eq_getElem h,List.flatten_append];simp
 .obtain rfl:i=w.AP.length:=by omega
  rw [A3,A9,AO,hv,List.take_length]
def Qc(s:List Ag)(i:Nat)(k:Nat):Bool:=FX s k fun p=>(p.At.tmod 9==(i:Int))&&(if 0<k then FX s (k-1) (fun d=>ltP d p) else true)
def Wv(l:List Ag)(i:Nat):Bool:=FX l i fun p=>ZC p&&F5 (fun k=>FX l k fun q=>!(q.Id==p.Id)) 0 i
theorem FF{w:AU}(hw:CD w):bg w=some (FJ w):=by
 have h1:=hw.1;have h2:=hw.2;have hj6:Qw w ()=some (F5 (fun i=>FX w.AP i fun s=>F5 (Qc s i) 0 s.length) 0 w.AP.length):=by
  unfold Qw;rw [Hp (n:=w.AP.length) (E:=some true) (fun i=>FX w.AP i fun s=>F5 (Qc s i) 0 s.length) (by omega) ?_ ?_,Cd,Bool.and_true]
  .intro L i h;have hs:=Ir h;rw [BB h];unfold YC;rw [A4 h,BE];refine Hp (n:=w.AP[i].length) (E:=L ((i+1:Nat):Int)) (Qc w.AP[i] i) (by omega) ?_ ?_
   .intro L' k hk;have hw':=Av hk (show w.AP[i].length<2 ^ 63 by omega);unfold Qc;rw [BB hk];unfold YD Qx;rw [Af h,AD,A4 hk,BE,YT];simp only [AD,Af hk,AO,hw',BE,A9];by_cases h0:0<k
    .rw [decide_eq_true h0,BE,if_pos h0,VQ k h0 (by omega),Af (show k-1<w.AP[i].length by omega),AD,Qb,AD,BB (show k-1<w.AP[i].length by omega),bne];cases w.AP[i][k].At.tmod 9==(i:Int) <;> cases ltP w.AP[i][k-1] w.AP[i][k] <;> rfl
    .rw [decide_eq_false h0,A9,if_neg h0,bne];cases w.AP[i][k].At.tmod 9==(i:Int) <;> rfl
   .intro L';unfold YD bh;rw [Af h,AD,A3,A9,AO,Av h (by omega)]
  .intro L;unfold YC bj;rw [A3,A9,AO]
 have hj1:∀b,Qu w w.AP.flatten b=some (!b&&(F5 (Wv w.AP.flatten) 0 w.AP.flatten.length&&F5 (fun i=>FX w.AP i fun s=>F5 (Qc s i) 0 s.length) 0 w.AP.length)):=by
  intro b;unfold Qu;rw [Hp (n:=w.AP.flatten.length) (E:=Qw w ()) (Wv w.AP.flatten) (by omega) ?_ ?_,hj6,Cd,I0]
  .intro L i h;unfold Wv;rw [BB h];have hj3:∀b,Qv w.AP.flatten L i b=br (!b&&F5 (fun k=>FX w.AP.flatten k fun q=>!(q.Id==w.AP.flatten[i].Id)) 0 i) (L ((i+1:Nat):Int)) (some false):=by
    intro b;unfold Qv;rw [Hp (n:=i) (E:=L ((i+1:Nat):Int)) (fun k=>FX w.AP.flatten k fun q=>!(q.Id==w.AP.flatten[i].Id)) (by omega) ?_ ?_]
    .cases b <;> rfl
    .intro L' k hk;rw [BB (show k<w.AP.flatten.length by omega)];unfold YB;rw [A4 hk,BE];simp only [Af h,Af (show k<w.AP.flatten.length by omega),AD,Av hk (show i<2 ^ 63 by omega)];cases w.AP.flatten[k].Id==w.AP.flatten[i].Id <;> rfl
    .intro L';unfold YB lD;rw [A3,A9,AO,Av h (by omega)]
   unfold YA ZC;rw [A4 h,BE];simp only [Af h,AD,EG,Bg,AO,hj3];generalize F5 (fun k=>FX w.AP.flatten k fun q=>!(q.Id==w.AP.flatten[i].Id)) 0 i=X;cases inB w.AP.flatten[i].At 1 1000008 <;> cases inB w.AP.flatten[i].Id 1 999 <;> rfl
  .intro L;unfold YA;rw [A3,A9,AO]
 unfold bg;rw [VE hw,AD,AO,AO,hj1,hj1,Bool.not_true,Bool.false_and,bne,Bg,Cd];congr 1;rw [Bool.eq_iff_iff,B1];simp only [Bool.and_eq_true,beq_iff_eq,Bool.not_eq_true',decide_eq_false_iff_not,GN];constructor
 .rintro⟨a1,a2,a3,a4⟩;refine⟨by omega,by omega,?_,?_,?_,?_⟩
  .intro p hp;obtain⟨k,hk,rfl⟩:=List.getElem_of_mem hp;have:=a3 k hk;unfold Wv at this;rw [BB hk,Bool.and_eq_true] at this;exact this.1
  .rw [List.pairwise_iff_getElem];intro i j hi hj hij;have:=a3 j hj;unfold Wv at this;rw [BB hj,Bool.and_eq_true,GN] at this;have:=this.2 i hij;rw [BB hi] at this;simpa using this
  .intro i h k hk;have:=a4 i h;rw [BB h,GN] at this;have:=this k hk;unfold Qc at this;rw [BB hk,Bool.and_eq_true,beq_iff_eq] at this;exact this.1
  .intro i h k hk;have:=a4 i h;rw [BB h,GN] at this;have:=this (k+1) hk;unfold Qc at this;rw [BB hk,Bool.and_eq_true,if_pos (by omega),Nat.add_sub_cancel,BB (by omega)] at this;exact this.2
 .rintro⟨a1,a2,a3,a4,a5,a6⟩;refine⟨by omega,by omega,?_,?_⟩
  .intro k hk;unfold Wv;rw [BB hk,Bool.and_eq_true,GN];refine⟨a3 _ (List.getElem_mem _),fun j hj=>?_⟩;rw [BB (by omega)];rw [List.pairwise_iff_getElem] at a4;have:=a4 j k (by omega) hk hj;simpa using this
  .intro i h;rw [BB h,GN];intro k hk;unfold Qc;rw [BB hk,Bool.and_eq_true,beq_iff_eq];refine⟨a5 i h k hk,?_⟩;split
   .rename_i h0;obtain⟨k,rfl⟩:∃j,k=j+1:=⟨k-1,by omega⟩;rw [Nat.add_sub_cancel,BB (by omega)];exact a6 i h k hk
   .rfl
noncomputable def Dn(w:AU):List Ag:=if FJ w=true then BY ltP w.AP.flatten else []
theorem QZ{w:AU}(hw:CD w):rJ w=some (Dn w):=by
 have hlim:lim=268435456:=rfl;have h2:=hw.2;unfold rJ Dn;rw [FF hw,AD,Bg,VE hw,AD,A7];split
 .rw [Se (l:=w.AP.flatten) (fun v p=>put ltP p v) (fun i v=>v.length<=i) some (by omega) ?_ ?_ ?_ (by simp),<-PZ CP OE]
  .intro L i h v hv;unfold YN;dsimp only;rw [A4 h,BE,Af h,AD,AD,NG (by omega),AD]
  .intro i h v hv;rw [GZ];omega
  .intro L v hv;unfold YN lH;dsimp only;rw [A3,A9,AO]
 .rfl
end Lv.P
namespace Lv.P
open Go (IntKind BinOp UnOp)
def EZ(c:AZ):Prop:=c.Row.length<=1048576/\CD c.BL
structure Ar(h:AA):Prop where
 Cl:h.AG.AM.length<=1048576
 BC:h.AB.length<=1048576
 B2:h.AE.length<=1048576
 B4:∀c∈h.AE,EZ c
 todo:h.AW.length<=1048576
 DJ:h.AS.length<=1048576
noncomputable def Ox(c:AZ):Bool:=CO c.AM&&(Uj c.Row&&FJ c.BL)
theorem ZV{c:AZ}(hc:EZ c):wS c=some (Ox c):=by
 have:=hc.1;unfold wS Qy Ox;simp only [Hw,Jf c.Row (by omega),FF hc.2,AD,AO,Cd]
theorem M7{w:AU}(hw:CD w):(Dn w).length<=1048576:=by
 unfold Dn;split
 .rw [FZ];exact hw.2
 .simp
noncomputable def Iw(r:AN)(c:AZ)(l:List AH)(k now:Int):Bool:=
 Ox c&&(GO eqE c.Row (Bn r l k now)&&(GO eqP (Dn c.BL) (Dc l k)&&((c.AM.Cp==FM l k)&&(c.AM.EB==FH l k))))
theorem eF{r:AN}(hr:r.AM.length<2 ^ 62){c:AZ}(hc:EZ c){l:List AH}(hl:l.length<=1048576)(k now:Int):wG r c l k now=some (Iw r c l k now):=by
 have h1:=hc.1;have h2:=M7 hc.2;unfold wG LZ Iw;simp only [ZV hc,Je hr hl,Za (show c.Row.length<2 ^ 62 by omega),QZ hc.2,QY hl,Vh (show (Dn c.BL).length<2 ^ 62 by omega),LL (show l.length<2 ^ 58 by omega),LM (show l.length<2 ^ 58 by omega),AD,AO,Cd]
def ED(q p:AH):Bool:=(q.AQ==p.AQ)||((decide (q.AQ<p.AQ)&&decide (p.Since<q.Since))||(decide (p.AQ<q.AQ)&&decide (q.Since<p.Since)))
def Wu(h:AA)(i:Nat):Bool:=
 FX h.AB i fun p=>Bc h.AG p h.Now&&(!(decide (p.AQ>=h.AQ))&&((if 0<i then FX h.AB (i-1) (fun q=>!(decide (q.Id>=p.Id))) else true)&&F5 (fun k=>FX h.AB k fun q=>!(ED q p)) 0 i))
def G9(h:AA):Bool:=F5 (Wu h) 0 h.AB.length
theorem Qk{h:AA}(hh:Ar h):wN h=some (G9 h):=by
 have h1:=hh.Cl;have h2:=hh.BC;unfold wN G9;rw [Hp (n:=h.AB.length) (E:=some true) (Wu h) (by omega) ?_ ?_,Cd,Bool.and_true]
 .intro L i hi;unfold Wu;rw [BB hi];have hj2:∀b,Lc h L i h.AB[i] b=br (!b&&F5 (fun k=>FX h.AB k fun q=>!(ED q h.AB[i])) 0 i) (L ((i+1:Nat):Int)) (some false):=by
   intro b;unfold Lc;rw [Hp (n:=i) (E:=L ((i+1:Nat):Int)) (fun k=>FX h.AB k fun q=>!(ED q h.AB[i])) (by omega) ?_ ?_]
   .cases b <;> rfl
   .intro L' k hk;have hkl:k<h.AB.length:=by omega
    have hj4:∀b,HW L' k b=br (!b) (L' ((k+1:Nat):Int)) (some false):=by intro b;unfold HW;rw [Av hk (by omega)];cases b <;> rfl
    rw [BB hkl];unfold Xw ED;rw [A4 hk,BE,Af hkl,AD];simp only [AO,hj4,gt_iff_lt];cases h.AB[k].AQ==h.AB[i].AQ <;> cases decide (h.AB[k].AQ<h.AB[i].AQ) <;> cases decide (h.AB[i].Since<h.AB[k].Since) <;> cases decide (h.AB[i].AQ<h.AB[k].AQ) <;> cases decide (h.AB[k].Since<h.AB[i].Since) <;> rfl
   .intro L';unfold Xw kd;rw [A3,A9,AO,Av hi (by omega)]
  unfold Xv;rw [A4 hi,BE,Af hi,AD,Jc (by omega),AD,Bg,YT];simp only [AO,hj2];generalize F5 (fun k=>FX h.AB k fun q=>!(ED q h.AB[i])) 0 i=X;by_cases h0:0<i
  .rw [decide_eq_true h0,BE,if_pos h0,VQ i h0 (by omega),Af (show i-1<h.AB.length by omega),AD,BB (show i-1<h.AB.length by omega)];cases Bc h.AG h.AB[i] h.Now <;> cases decide (h.AB[i].AQ>=h.AQ) <;> cases decide (h.AB[i-1].Id>=h.AB[i].Id) <;> rfl
  .rw [decide_eq_false h0,A9,if_neg h0];cases Bc h.AG h.AB[i] h.Now <;> cases decide (h.AB[i].AQ>=h.AQ) <;> rfl
 .intro L;unfold Xv kf;rw [A3,A9,AO]
theorem Jg{l:List Int}(hl:l.length<2 ^ 62)(x:Int):m3 l x=some (l.any (fun y=>y==x)):=by
 unfold m3;refine(B8 (n:=l.length) (fun i (_:Unit)=>(i:Int)) (fun _ _=>True) (fun i _=>some ((l.drop i).any (fun y=>y==x))) (by omega) ?_ (v:=()) trivial);intro L i _ _ hi ih;unfold kx kv;rcases Nat.lt_or_ge i l.length with h|h
 .rw [A4 h,BE,Af h,AD,Av h (by omega),Ch h,List.any_cons];cases l[i]==x with
  |true=>rfl
  |false=>rw [A9,ih () trivial h];rfl
 .obtain rfl:i=l.length:=by omega
  rw [A3,A9,AO,List.drop_length];rfl
def P0(t:List Int)(n:Int)(i:Nat):Bool:=FX t i fun k=>inB k 0 (w64 (n-1))&&!((t.take i).any fun y=>y==k)
def EV(t:List Int)(n:Int):Bool:=F5 (P0 t n) 0 t.length
def GM(t:List Int)(n:Int):Bool:=t.all fun x=>inB x (-1) (w64 (n-1))
theorem Zc{h:AA}(hh:Ar h):wP h=some (EV h.AW h.AE.length&&(GM h.AS h.AE.length&&((h.AS.length:Int)==h.AG.Cc))):=by
 have h1:=hh.todo;have h2:=hh.DJ;have e3:Qr h ()=some (GM h.AS h.AE.length&&((h.AS.length:Int)==h.AG.Cc)):=by
  unfold Qr GM;rw [yH (l:=h.AS) (fun x=>inB x (-1) (w64 ((h.AE.length:Int)-1))) (E:=some ((h.AS.length:Int)==h.AG.Cc)) (by omega) ?_ ?_,Cd]
  .intro L i hi;unfold Xz;rw [A4 hi,BE,Af hi,AD,EG,AD,Bg]
  .intro L;unfold Xz ky;rw [A3,A9,AO]
 unfold wP EV;rw [Hp (n:=h.AW.length) (E:=Qr h ()) (P0 h.AW h.AE.length) (by omega) ?_ ?_,e3,Cd]
 .intro L i hi;unfold P0;rw [BB hi];unfold Xy Xx;rw [A4 hi,BE,Af hi,AD,EG,AD,Bg,BP (by omega),AD,Int.toNat_natCast,Jg (by rw [List.length_take];omega),AD,AO,AO,Av hi (by omega),BE];cases inB h.AW[i] 0 (w64 ((h.AE.length:Int)-1)) <;> cases (h.AW.take i).any (fun y=>y==h.AW[i]) <;> rfl
 .intro L;unfold Xy;rw [A3,A9,AO]
noncomputable def Vv(h:AA)(i:Nat):Bool:=
 FX h.AE i fun c=>FX h.AG.AM i (fun s=>c.AM.Total==s)&&(Iw h.AG c h.AB i h.Now&&!(decide (Bk h.AB i>h.AG.Room)))
noncomputable def LW(h:AA):Bool:=F5 (Vv h) 0 h.AE.length
noncomputable def C7(h:AA):Bool:=
 DY h.AG&&(inB h.Now 0 1000000&&(inB h.AQ 1 1000001&&(!(decide ((h.AB.length:Int)>40))&&(((h.AE.length:Int)==(h.AG.AM.length:Int))&&(G9 h&&((EV h.AW h.AE.length&&(GM h.AS h.AE.length&&((h.AS.length:Int)==h.AG.Cc)))&&LW h))))))
theorem Jb{h:AA}(hh:Ar h):my h=some (C7 h):=by
 have h1:=hh.Cl;have h2:=hh.BC;have h3:=hh.B2;have ht:HU h true=some false:=rfl;unfold my C7;by_cases hcl:h.AE.length=h.AG.AM.length
 .have hj2:∀b,Qp h b=some (!b&&LW h):=by
   intro b;unfold Qp LW;rw [Hp (n:=h.AE.length) (E:=some true) (Vv h) (by omega) ?_ ?_,Cd,Bool.and_true,I0]
   .intro L i hi;have hj4:∀b,NW L i b=br (!b) (L ((i+1:Nat):Int)) (some false):=by intro b;unfold NW;rw [Av hi (by omega)];cases b <;> rfl
    unfold Vv;rw [BB hi,BB (show i<h.AG.AM.length by omega)];unfold Xt;rw [A4 hi,BE,Af hi,AD,Af (show i<h.AG.AM.length by omega),AD,AD,eF (by omega) (hh.B4 _ (List.getElem_mem hi)) h2,AD,Bg,Gb (by omega),AD];simp only [AO,hj4,bne];cases h.AE[i].AM.Total==h.AG.AM[i] <;> cases Iw h.AG h.AE[i] h.AB i h.Now <;> cases decide (Bk h.AB i>h.AG.Room) <;> rfl
   .intro L;unfold Xt jt;rw [A3,A9,AO]
  have hj1:∀b,HU h b=some (!b&&(G9 h&&((EV h.AW h.AE.length&&(GM h.AS h.AE.length&&((h.AS.length:Int)==h.AG.Cc)))&&LW h))):=by
   intro b;unfold HU;simp only [Qk hh,Zc hh,AD,Bg,AO,hj2,Bool.not_true,Bool.false_and,Bool.not_not,Cd,I0]
  simp only [FE (show h.AG.AM.length<2 ^ 62 by omega),EG,AD,Bg,AO,hj1,Bool.not_true,Bool.false_and,Cd,I0,bne,Bool.not_not]
 .have e:((h.AE.length:Int)==(h.AG.AM.length:Int))=false:=by rw [beq_eq_false_iff_ne];omega
  simp only [FE (show h.AG.AM.length<2 ^ 62 by omega),EG,AD,Bg,AO,bne,e,Bool.not_false,ht,vt,Bool.false_and,Bool.and_false]
theorem JG(a b:Bool):(if a=true then some b else some false)=some (a&&b):=by cases a <;> rfl
def Mq(n:Int):Bool:=inB n 0 9999
theorem uk(n:Int):Qg n=some (Mq n):=by unfold Qg Mq;rw [EG,AD]
def J4(q:Aq):Bool:=
 if q.Kind=1 then Mq q.Id&&(Mq q.AK&&(inB q.Ay (-1) 9999&&(Mq q.AY&&Mq q.Bb)))
 else if q.Kind=2\/q.Kind=4\/q.Kind=5\/q.Kind=7 then Mq q.Id&&(q.AK==0&&(q.Ay==0&&(q.AY==0&&q.Bb==0)))
 else if q.Kind=3 then Mq q.AK&&(Mq q.AY&&(q.Id==0&&(q.Ay==0&&q.Bb==0)))
 else if q.Kind=6 then q.Id==0&&(q.AK==0&&(q.Ay==0&&(q.AY==0&&q.Bb==0)))
 else false
theorem uj(q:Aq):wH q=some (J4 q):=by
 obtain⟨k,a,b,c,d,e⟩:=q;unfold wH Eg NX Eg J4;simp only [AO,uk,AD,EG,Cd,A7,beq_iff_eq];by_cases h1:k=1
 .simp [h1,JG]
 by_cases h2:k=2
 .simp [h2,JG]
 by_cases h3:k=4
 .simp [h3,JG]
 by_cases h4:k=5
 .simp [h4,JG]
 by_cases h5:k=7
 .simp [h5,JG]
 by_cases h6:k=3
 .simp [h6,JG]
 by_cases h7:k=6
 .simp [h7,JG]
 simp [h1,h2,h3,h4,h5,h6,h7]
structure zk(e:GQ):Prop where
 IS:Ar e.BQ
 log:e.DR.Log.Data.length<=1048576
 even:e.DR.Oo.Data.length<=1048576
 odd:e.DR.Odd.Data.length<=1048576
 laid:e.Laid.length<=1048576
end Lv.P
namespace Lv.P
open Go (IntKind BinOp UnOp)
theorem ne_self(a:Int):(a != a)=false:=by simp
end Lv.P
