/- Plain laws about what the program computes. -/
import Derived.Test.YtcmjfplpdjflnaaGreatPOc
import Derived.Test.YtcmjfplpdjflnaaGreatPSc
set_option linter.unusedVariables false
set_option linter.unusedSimpArgs false
set_option linter.unusedSectionVars false
open Bool renaming and_eq_true->AF,not_false->EU,not_true->Br
open Int renaming eq_ofNat_of_zero_le->Ac,toNat_natCast->Ah
open List renaming length_eq_zero_iff->EI,length_nil->AN,length_take->BI
open Nat renaming le_trans->Aw,lt_or_ge->AV
namespace Lv.P
open Lv Go
def Sml(B:Nat)(s:Bo):Prop:=s.Log.Data.length<=B/\s.FH.Data.length<=B/\s.Odd.Data.length<=B
theorem Sml.pu3{B:Nat}{s:Bo}(h:Sml B s){a:B0}(c:a.Data.length<=B)(k:Int):Sml B (VV s k a):=by
 unfold VV;split
 .exact⟨h.1,c,h.2.2⟩
 .exact⟨h.1,h.2.1,c⟩
theorem Sml.sl3{B:Nat}{s:Bo}(h:Sml B s)(k:Int):(DQ s k).Data.length<=B:=by
 unfold DQ;split
 .exact h.2.1
 .exact h.2.2
theorem aD{B:Nat}(hB:20000<=B){a:B0}(h:a.Data.length<=B)(s:List UInt8):(FK a s).1.Data.length<=B:=by
 grind[FK,List.length_append]
theorem UP{e:Af}(a:B5 e)(p:Int):∃r,Mx e p=some r/\B5 r.1/\r.1.Laid=e.Laid/\(Sml 30000 e.A9->Sml 30000 r.1.A9):=by
 obtain⟨r,h,_,c⟩:=UQ a p;refine⟨r,h,c,?_⟩;obtain⟨n,g,y,B⟩:=Qa e.A9;obtain⟨r',j,E,_⟩:=EW e.A9 n;have q:=VZ a (w64 (1-n));unfold Mx Pv Nv at h;simp only[HG a,GR a,GN,AB,AR,g,HB,RR,Jv a.EB,Oo (Aw (IX e.Bb e.Seq) (by omega)),QS,j,RQ a.log,Zy,Bn]at h
 repeat' split at h
 all_goals cases h
 all_goals refine⟨rfl,fun hS=>?_⟩
 all_goals first|exact hS|exact hS.pu3 (by simp) _|exact hS.pu3 (aD (by omega) (hS.sl3 _) _) _|exact hS.pu3 (by rw[OJ];exact hS.sl3 _) _|exact Sml.pu3 (s:=⟨(Ky e.A9.Log _).1,e.A9.FH,e.A9.Odd⟩) ⟨Aw (rM _ _) hS.1,hS.2⟩ (hS.sl3 _) _
theorem nY{e:Af}(j:B5 e)(p:Int):∃r,Sk e p=some r/\B5 r.1/\r.1.Laid=e.Laid/\(Sml 30000 e.A9->Sml 30000 r.1.A9):=by
 unfold Sk;rw[HG j,AB];refine KB (fun x:Int×Af=>0<=x.1/\x.1<=4/\B5 x.2/\x.2.Laid=e.Laid/\(Sml 30000 e.A9->Sml 30000 x.2.A9)) (fun x=>(4-x.1).toNat) (fun r:Af×Bool=>B5 r.1/\r.1.Laid=e.Laid/\(Sml 30000 e.A9->Sml 30000 r.1.A9)) ?_ big (0,e) ⟨by omega,by omega,j,rfl,id⟩ (Ie _ (by simp));rintro L ⟨i,x⟩ ⟨y,B,c,a,hS⟩ q;unfold Jn W5;dsimp only at y B c a hS q ⊢;rw[MN,AB,BL];by_cases g:i<(if p<4 then p else 4)
 .have J:i<4:=by split at g<;>omega
  rw[AX g];obtain⟨r,E,G,H,I⟩:=UP c i;rw[E,AB,BP];cases r.2 with
  |false=>exact⟨(x,false),rfl,c,a,hS⟩|true=>
   rw[BJ,A6 (by omega) (by omega)];exact q (i+1,r.1) ⟨by omega,by omega,G,H.trans a,fun h=>I (hS h)⟩ (by dsimp only;omega)
 .rw[AU g,AR];exact⟨(x,true),rfl,c,a,hS⟩
def Rt(e:Af):Prop:=B5 e/\e.Laid.length<=8/\Sml 30000 e.A9
theorem AVC{e:Af}(h:Rt e)(q:B1):Rt (NF e q).1:=by
 refine⟨ky h.1 q,?_,?_⟩
 .have:=h.2.1
  grind[NF,J9,List.length_append,List.length_singleton]
 .have hS:=h.2.2;unfold NF
  repeat' split
  all_goals first|exact hS|exact⟨aD (by omega) hS.1 _,hS.2⟩
theorem AWQ{e:Af}(h:Rt e):Rt (MR e).1:=by
 refine⟨(Zv h.1).1,?_⟩;have:=h.2;unfold MR;split
 .exact this
 .exact⟨by simp,by dsimp only;rw[OJ];exact this.2.1,this.2.2⟩
theorem call8{e:Af}(h:Rt e)(q:B1):Rt (AGg e q).1:=by
 unfold AGg;split
 .exact h
 .exact AWQ (AVC h q)
theorem AaE{r:Ab}(a:r.AY.length<=1048576):Rt (LS r).1:=by
 have hT:=IX (I6 r).1 0;refine⟨nD a,?_⟩;unfold LS;split
 .exact⟨by simp,by simp,by dsimp only;omega,by simp⟩
 .exact⟨by simp[H9],by simp[H9],by simp[H9],by simp[H9]⟩
theorem AYq{x:Int×AZ}(y:0<=x.1)(H:x.1<=1000)(B:CL x.2){e:Af}(E:Rt e):∃r,BB (ji x) big (0,x.2,e)=some r/\Rt r.1/\CL r.2:=by
 obtain⟨n,G⟩:=Ac y;refine JR (n:=n) (fun i (v:AZ×Af)=>((i:Int),v.1,v.2)) (fun i v=>CL v.1/\Rt v.2) _ (by omega) ?_ (v:=(x.2,e)) ⟨B,E⟩;rintro L i ⟨c,e⟩ ⟨h,a⟩ hi j;unfold ji ABR;dsimp only at h a j ⊢;rw[G,dec_lt];rcases AV i n with g|g
 .obtain⟨q,eq,cq⟩:=AXg h a.1.EB;rw[decide_eq_true g,BJ,eq,AB,YE a.1,AB,Bg g (by omega)];exact j (_,_) ⟨cq,AVC a _⟩ g
 .rw[decide_eq_false (by omega),BT,AR];exact⟨_,rfl,a,h⟩
theorem AVp{c:AZ}(h:CL c):∃r,AIV c=some r/\Rt r.1/\CL r.2:=by
 unfold AIV;obtain⟨x1,X,s1,_,Q⟩:=ATj h;obtain⟨x3,Y,a3,_,O,S⟩:=CU Q 14;rw[X,AB,ACC (by omega),AB,Y,AB];have hb:=O (by omega);obtain⟨n,Z⟩:=Ac a3;refine JR (n:=n) (fun i (v:AZ×Af)=>((i:Int),v.1,v.2)) (fun i v=>CL v.1/\Rt v.2) _ (by omega) ?_ (v:=(x3.2,(LS x1.1).1)) ⟨S,AaE (by omega)⟩;rintro L i ⟨c,e⟩ ⟨B,a⟩ hi G;unfold ABS;dsimp only at B a G ⊢;rw[Z,dec_lt];rcases AV i n with g|g
 .rw[decide_eq_true g,BJ];have J:∀c e,CL c->Rt e->∃r,XF L (i:Int) (c,e)=some r/\Rt r.1/\CL r.2:=by
   intro c e h j;unfold XF;dsimp only;rw[Bg g (by omega)];exact G (_,_) ⟨h,j⟩ g
  have I:∀c e,CL c->Rt e->∃r,XE L (i:Int) (c,e)=some r/\Rt r.1/\CL r.2:=by
   intro c e h j;unfold XE;dsimp only;obtain⟨y,ey,cy⟩:=MV h 8;rw[ey,AB,Bn];split
   .have E:=AWQ j;obtain⟨z,ez,_,_,_,cz⟩:=CU cy 5;obtain⟨m,em,fm,lm,sm⟩:=nY E.1 z.1;rw[UD j.1,AB,ez,AB,em,AB,AR];exact J _ _ cz ⟨fm,by rw[lm];exact E.2.1,sm E.2.2⟩
   .rw[AR];exact J _ _ cy j
  have H:∀c q,CL c->∃r,XD L (i:Int) e (c,q)=some r/\Rt r.1/\CL r.2:=by
   intro c q h;unfold XD;dsimp only;obtain⟨y,ey,cy⟩:=MV h 5;rw[ey,AB,Bn];split
   .rw[YE a.1,AB,AR];exact I _ _ cy (AVC a _)
   .rw[AMR a.1,AB,AR];exact I _ _ cy (call8 a _)
  obtain⟨q,eq,cq⟩:=AXg B a.1.EB;obtain⟨o,eo,co⟩:=MV cq 2;rw[eq,AB,eo,AB,Bn];split
  .obtain⟨l,el,cl⟩:=AYr co a.1.EB;rw[el,AB,AR];exact H _ _ cl
  .rw[AR];exact H _ _ co
 .rw[decide_eq_false (by omega),BT,AR];unfold ABQ;dsimp only;obtain⟨y,ey,ay,_,by_,cy⟩:=CU B 4;rw[ey,AB];exact AYq ay (by have:=by_ (by omega);omega) cy a
theorem AaH{c:AZ}(a:CL c):∃x,AIW c=some x/\x.1.length<=20000/\CL x.2:=by
 unfold AIW;refine KB (fun v:List UInt8=>1<=v.length/\v.length<=40000) (fun v=>40000-v.length) (fun x:List UInt8×AZ=>x.1.length<=20000/\CL x.2) ?_ big [48,49,50,51,52,53,54,55,56,57] (by simp) (Ie _ (by simp));rintro L v ⟨g,h⟩ e;unfold ABU;rw[BL];split
 .rw[B6 (by unfold OI;omega)];exact e _ ⟨by simp;omega,by simp;omega⟩ (by simp;omega)
 .rw[AR];unfold ABT;obtain⟨z,ez,cz,mz⟩:=Ht a (l:=[19989,19990,20000]) (by simp);have:0<=z.1/\z.1<=20000:=by
   simp only[List.mem_cons,List.not_mem_nil,or_false]at mz;omega
  rw[ez,AB,B6 (by omega)];exact⟨_,rfl,by simp only[BI];omega,cz⟩
theorem AVo{c:AZ}(y:CL c):∃x,AIX c=some x/\B5 x.1/\x.1.Laid.length<=20/\CL x.2:=by
 unfold AIX;obtain⟨e,ee,fe,ce⟩:=AVp y;obtain⟨k,ek,_,_,_,ck⟩:=CU ce 20;have q:=fe;obtain⟨a,B,_⟩:=fe;rw[ee,AB,ek,AB,Bn];split
 .obtain⟨z,ez,cz,_⟩:=Ht ck (l:=[-1,0,999999,1000000,1000001,9223372036854775807]) (by simp);rw[ez,AB,AR];exact⟨_,rfl,⟨a.EB,a.log,a.even,a.odd,a.laid⟩,by dsimp only;omega,cz⟩
 rw[Bn];split
 .obtain⟨z,ez,cz⟩:=ATi ck a.EB;rw[ez,AB,B6 (by simp only[List.length_cons,AN];unfold lim;omega),AR];exact⟨_,rfl,⟨a.EB,a.log,a.even,a.odd,by simp;omega⟩,by simp;omega,cz⟩
 rw[Bn];split
 .obtain⟨z,ez,cz,_⟩:=Ht ck (l:=[-1,0,30000]) (by simp);rw[ez,AB,AR];exact⟨_,rfl,⟨a.EB,a.log,a.even,a.odd,a.laid⟩,by dsimp only;omega,cz⟩
 rw[Bn];split
 .obtain⟨z,ez,fz,cz⟩:=AGC ck;rw[ez,AB,AR];exact⟨_,rfl,⟨fz,a.log,a.even,a.odd,a.laid⟩,by dsimp only;omega,cz⟩
 rw[Bn];split
 .refine JR (n:=9) (fun i (v:Af)=>((i:Int),v)) (fun i v=>Rt v) _ (by omega) ?_ (v:=e.1) q;intro L i v h hi j;unfold ABV MJ;dsimp only at h j ⊢;rw[show (9:Int)=((9:Nat):Int) from rfl,dec_lt];rcases AV i 9 with g|g
  .rw[decide_eq_true g,BJ,YE h.1,AB,Bg g (by omega)];exact j _ (AVC h _) g
  .rw[decide_eq_false (by omega),BT,AR];exact⟨_,rfl,h.1,by have:=h.2.1;dsimp only;omega,ck⟩
 rw[Bn];split
 .obtain⟨z,ez,lz,cz⟩:=AaH ck;rw[ez,AB,AR];exact⟨_,rfl,⟨a.EB,by dsimp only;omega,a.even,a.odd,a.laid⟩,by dsimp only;omega,cz⟩
 .rw[AR];exact⟨_,rfl,a,by dsimp only;omega,ck⟩
theorem OQ{s s':Bo}{k a:Int}(h:DQ s k=DQ s' a):FZ s k=FZ s' a:=by
 unfold FZ;rw[HB,HB,h]
def AKg(x y:AE×Int×Bool):Int:=if x.2.2=true then (if y.2.2=true/\¬x.2.1>=y.2.1 then 1 else 0) else if y.2.2=true then 1 else -1
theorem NS{s:Bo}{x y:AE×Int×Bool}(e:FZ s 0=some x)(g:FZ s 1=some y):K7 s=some (AKg x y):=by
 unfold K7 Sb AKg;rw[e,g,AB,AB];cases a:x.2.2<;>cases c:y.2.2<;>simp[Bn,AR,a,c];by_cases h:y.2.1<=x.2.1
 .simp[h]
 .simp[h]
def AFn(e:Af)(k:Int)(a:B0):Af:=⟨e.Bb,VV e.A9 k a,e.Seq,e.Laid⟩
theorem dB{e:Af}(a:B5 e){p:Int}{r:Af}(h:Mx e p=some (r,true)):Ev e=true/\e.Laid=[]/\∃n,K7 e.A9=some n/\(n=0\/n=1) /\
 ((p=0/\r=AFn e (w64 (1-n)) ⟨[],0⟩)\/(p=1/\(FK (DQ e.A9 (w64 (1-n))) (Et e.Bb e.Seq)).2=true/\r=AFn e (w64 (1-n)) (FK (DQ e.A9 (w64 (1-n))) (Et e.Bb e.Seq)).1) \/
  (p=2/\r=AFn e (w64 (1-n)) (Rp (DQ e.A9 (w64 (1-n))))) \/
  (p≠0/\p≠1/\p≠2/\∃q,FZ e.A9 n=some q/\(Ky e.A9.Log (RZ q.2.1 0 (Da e.A9.Log.Data))).2=true/\r=⟨e.Bb,⟨(Ky e.A9.Log (RZ q.2.1 0 (Da e.A9.Log.Data))).1,e.A9.FH,e.A9.Odd⟩,e.Seq,e.Laid⟩)):=by
 obtain⟨n,I,O,Q⟩:=Qa e.A9;obtain⟨q,J,S,_⟩:=EW e.A9 n;have L:=VZ a (w64 (1-n));unfold Mx Pv Nv at h;simp only[HG a,GR a,GN,AB,AR,I]at h;have bad:∀x:Af,(some (x,false):AA (Af×Bool))=some (r,true)->False:=fun x g=>by cases g
 cases E:Ev e with
 |false=>rw[E,EU,BJ,BJ]at h;exact(bad _ h).elim|true=>
 rw[E,Br,BT]at h;by_cases G:(e.Laid.length:Int)>0
 .rw[decide_eq_true G,BJ,BJ]at h;exact(bad _ h).elim
 rw[decide_eq_false G,BT]at h;cases hi:inB p 0 3 with
 |false=>rw[hi,EU,BJ]at h;exact(bad _ h).elim|true=>
 rw[hi,Br,BT]at h;by_cases H:n<0
 .rw[decide_eq_true H,BJ]at h;exact(bad _ h).elim
 simp only[decide_eq_false H,BT,HB,AB,RR,AR,Jv a.EB,Oo (Aw (IX e.Bb e.Seq) (by omega)),QS,J,RQ a.log,Zy,HG a,BP,BJ]at h;refine⟨rfl,EI.1 (by omega),n,I,by omega,?_⟩;cases j:p==0 with
 |true=>
  rw[j,BJ]at h;cases h;exact .inl ⟨by simpa using j,rfl⟩
 |false=>
 rw[j,BT]at h;cases y:p==1 with
 |true=>
  rw[y,BJ]at h;cases c:(FK (DQ e.A9 (w64 (1-n))) (Et e.Bb e.Seq)).2 with
  |true=>
   rw[c,BJ]at h;cases h;exact .inr (.inl ⟨by simpa using y,rfl,rfl⟩)
  |false=>rw[c,BT]at h;exact(bad _ h).elim
 |false=>
 rw[y,BT]at h;cases B:p==2 with
 |true=>
  rw[B,BJ]at h;cases h;exact .inr (.inr (.inl ⟨by simpa using B,rfl⟩))
 |false=>
 rw[B,BT]at h;refine .inr (.inr (.inr ⟨by simpa using j,by simpa using y,by simpa using B,q,J,?_⟩));cases c:(Ky e.A9.Log (RZ q.2.1 0 (Da e.A9.Log.Data))).2 with
 |true=>
  rw[c,BJ]at h;cases h;rw[T8];exact⟨rfl,rfl⟩
 |false=>rw[c,BT]at h;exact(bad _ h).elim
theorem ADU{e:Af}(q:B5 e){r:Af×Bool}(h:Sk e 4=some r)(Z:r.2=true):∃a g j,Mx e 0=some (a,true)/\B5 a/\Mx a 1=some (g,true)/\B5 g /\
 Mx g 2=some (j,true)/\B5 j/\Mx j 3=some (r.1,true):=by
 unfold Sk at h;rw[HG q,AB]at h;obtain⟨n,Y⟩:=Pb 5 (by omega);rw[Y]at h;have step:∀(m:Nat) (i:Int) (e:Af),B5 e->0<=i->i<4->BB (Jn 4) (m+1) (i,e)=some r->∃a,Mx e i=some (a,true)/\B5 a/\BB (Jn 4) m (i+1,a)=some r:=by
  intro m i e q h0 X h;rw[Dy]at h;generalize BB (Jn 4) m=L at *;unfold Jn at h;obtain⟨x,H,x2,_,_⟩:=UP q i;dsimp only at h;rw[MN,AB,BL,AX (by simpa using X),H,AB,BP]at h;cases y:x.2 with
  |false=>rw[y,BT]at h;cases h;cases Z
  |true=>
   rw[y,BJ,A6 (by omega) (by omega)]at h;exact⟨x.1,by rw[H,<-y],x2,h⟩
 obtain⟨a,I,B,O⟩:=step _ _ _ q (by omega) (by omega) h;obtain⟨g,J,E,Q⟩:=step _ _ _ B (by omega) (by omega) O;obtain⟨j,a3,G,S⟩:=step _ _ _ E (by omega) (by omega) Q;obtain⟨e4,a4,b4,c⟩:=step _ _ _ G (by omega) (by omega) S;rw[Dy]at c;unfold Jn W5 at c;dsimp only at c;rw[MN,AB,BL,AU (by simp),AR]at c;cases c;exact⟨a,g,j,I,B,J,E,a3,G,a4⟩
def Ch(L:Int):Int->List Bs->Prop|_,[]=>True|e,f::l=>e<f.Next/\f.Next<=L/\Ch L f.Next l
theorem AN8(s:List UInt8):∀(f:Nat) (i:Int),Ch s.length i (frs f s i)
 |0,i=>trivial|f+1,i=>by
  unfold frs;split
  .rename_i h;have:=Y1 h;exact⟨by omega,by omega,AN8 s f _⟩
  .trivial
theorem mr{L t:Int}:∀(l:List Bs) (v e:Int),Ch L e l->v<=t->YQ t v e l=L->RZ t e l=L
 | [],v,e,_,_,h=>h|f::l,v,e,g,j,h=>by
  obtain⟨q,y,c⟩:=g;unfold YQ at h;unfold RZ;by_cases a:f.Seq<=v
  .rw[AX a]at h;rw[AX (by omega)];exact mr l v _ c j h
  .rw[AU a]at h;by_cases b:f.Seq=v+1/\f.Seq<=t
   .rw[AX b]at h;rw[AX b.2];exact mr l (v+1) _ c (by omega) h
   .rw[AU b]at h;omega
theorem rdI{s:Bo}{k:Int}{r:AE×Int×Bool}(h:OY s k=some r):FZ s k=some r:=by
 obtain⟨x,a,c,_⟩:=EW s k;rw[a,<-c,h]
theorem ATH{s:Bo}{k:Int}{T:List UInt8}(h:DQ s k=⟨T,0⟩)(hT:T.length<=20000):FZ s k=some (Jh,0,false):=by
 refine rdI ?_;unfold OY;rw[Oh,AB,G5,AB,h,Fs.2 ⟨by dsimp only;omega,by dsimp only;omega,by dsimp only;omega⟩,BP,BJ,B6 (by dsimp only;omega),show List.take (Int.toNat 0) T=[] from rfl,AF5,AB]
theorem AVd{s:Bo}{k:Int}{h:AE}{q:Int}(a:DE h=true)(c:Bk h)(e:inB q 0 1000000=true)(g:DQ s k=⟨Et h q,((Et h q).length:Int)⟩):FZ s k=some (h,q,true):=by
 have hT:=IX h q;refine rdI ?_;unfold OY;rw[Oh,AB,G5,AB,g,Fs.2 ⟨by dsimp only;omega,by dsimp only;omega,by dsimp only;omega⟩,BP,BJ,B6 (by dsimp only;omega),Ah,List.take_length,AMQ a c e,AB]
def Two(n k:Int):Prop:=n=0/\k=1\/n=1/\k=0
theorem Two.pu3{n k:Int}(h:Two n k)(s:Bo)(a:B0):DQ (VV s k a) k=a/\DQ (VV s k a) n=DQ s n/\(VV s k a).Log=s.Log:=by
 rcases h with ⟨rfl,rfl⟩|⟨rfl,rfl⟩<;>exact⟨rfl,rfl,rfl⟩
theorem Two.ot3{n:Int}(h:n=0\/n=1):Two n (w64 (1-n)):=by
 rcases h with rfl|rfl
 .exact .inl ⟨rfl,rfl⟩
 .exact .inr ⟨rfl,rfl⟩
theorem Two.nw3{n k:Int}(h:Two n k){s:Bo}{x y:AE×Int×Bool}(g:FZ s n=some x)(j:FZ s k=some y) :
 (y.2.2=false->x.2.2=true->K7 s=some n)/\(x.2.2=true->y.2.2=true->x.2.1<y.2.1->K7 s=some k)/\(x.2.2=true->y.2.2=true->x.2.1<=y.2.1->K7 s=some n\/K7 s=some k):=by
 rcases h with ⟨rfl,rfl⟩|⟨rfl,rfl⟩
 .rw[NS g j];unfold AKg;refine⟨fun a c=>by simp[a,c],fun a c e=>by simp[a,c];omega,fun a c e=>?_⟩;by_cases q:x.2.1>=y.2.1
  .left;simp[a,q]
  .right;simp[a,c];omega
 .rw[NS j g];unfold AKg;refine⟨fun a c=>by simp[a,c],fun a c e=>by simp[a,c];omega,fun a c e=>?_⟩;right;simp[a,c];omega
theorem Two.bd3{n k:Int}(h:Two n k){s:Bo}(a:K7 s=some n){x:AE×Int×Bool}(e:FZ s n=some x):x.2.2=true:=by
 obtain⟨y,g,_⟩:=EW s k;rcases h with ⟨rfl,rfl⟩|⟨rfl,rfl⟩
 .rw[NS e g]at a;unfold AKg at a;cases c:x.2.2 with|true=>rfl|false=>rw[c]at a;simp at a;split at a<;>omega
 .rw[NS g e]at a;unfold AKg at a;cases c:x.2.2 with|true=>rfl|false=>rw[c]at a;simp at a;split at a<;>omega
theorem AYM{e a g j:Af}(he:B5 e)(h1:B5 a)(h2:B5 g)(a0:Mx e 0=some (a,true))(a1:Mx a 1=some (g,true))(a2:Mx g 2=some (j,true)) :
 Ev e=true/\e.Laid=[]/\∃n k x,Two n k/\K7 e.A9=some n/\FZ e.A9 n=some x/\x.2.2=true/\DQ j.A9 n=DQ e.A9 n/\DQ j.A9 k=⟨Et e.Bb e.Seq,((Et e.Bb e.Seq).length:Int)⟩ /\
  j.A9.Log=e.A9.Log/\j.Bb=e.Bb/\j.Seq=e.Seq/\j.Laid=e.Laid:=by
 have hT:=IX e.Bb e.Seq;obtain⟨b0,l0,n,Z,L,Q⟩:=dB he a0;have tw:=Two.ot3 L;generalize w64 (1-n)=k at tw Q;obtain⟨x,G,_⟩:=EW e.A9 n;have q:=tw.bd3 Z G;have h:a=AFn e k ⟨[],0⟩:=by
  rcases Q with c|c|c|c
  .exact c.2
  .exact absurd c.1 (by decide)
  .exact absurd c.1 (by decide)
  .exact absurd rfl c.1
 obtain⟨b1,_,m,hm,hm2,S⟩:=dB h1 a1;have p1:=tw.pu3 e.A9 ⟨[],0⟩;have em:m=n:=by
  have:=(tw.nw3 (s:=a.A9) (x:=x) (y:=(Jh,0,false)) (by rw[h];exact(OQ p1.2.1).trans G) (by rw[h];exact ATH p1.1 (by simp))).1 rfl q;rw[hm]at this;exact Option.some.inj this
 subst em;have ek:w64 (1-m)=k:=by rcases tw with ⟨rfl,rfl⟩|⟨rfl,rfl⟩<;>rfl
 rw[ek]at S;have s1:DQ a.A9 k=⟨[],0⟩:=by rw[h];exact p1.1
 have I:FK ⟨[],0⟩ (Et a.Bb a.Seq)=(⟨Et e.Bb e.Seq,0⟩,true):=by
  rw[h];unfold FK AFn;dsimp only;rw[AX ⟨rfl,by simp;omega⟩];rfl
 have B:g=AFn a k ⟨Et e.Bb e.Seq,0⟩:=by
  rcases S with c|c|c|c
  .exact absurd c.1 (by decide)
  .rw[c.2.2,s1,I]
  .exact absurd c.1 (by decide)
  .exact absurd rfl c.2.1
 obtain⟨b2,_,m',J,Y,X⟩:=dB h2 a2;have p2:=tw.pu3 a.A9 ⟨Et e.Bb e.Seq,0⟩;have so:DQ g.A9 m=DQ e.A9 m:=by rw[B];refine p2.2.1.trans ?_;rw[h];exact p1.2.1
 have H:m'=m:=by
  have:=(tw.nw3 (s:=g.A9) (x:=x) (y:=(Jh,0,false)) ((OQ so).trans G) (by rw[B];exact ATH p2.1 (by omega))).1 rfl q;rw[J]at this;exact Option.some.inj this
 subst H;rw[ek]at X;have s2:DQ g.A9 k=⟨Et e.Bb e.Seq,0⟩:=by rw[B];exact p2.1
 have O:Rp ⟨Et e.Bb e.Seq,0⟩=⟨Et e.Bb e.Seq,((Et e.Bb e.Seq).length:Int)⟩:=by
  unfold Rp;rw[AX (Fs.2 ⟨by dsimp only;omega,by dsimp only;omega,by dsimp only;omega⟩)]
 have E:j=AFn g k ⟨Et e.Bb e.Seq,((Et e.Bb e.Seq).length:Int)⟩:=by
  rcases X with c|c|c|c
  .exact absurd c.1 (by decide)
  .exact absurd c.1 (by decide)
  .rw[c.2,s2,O]
  .exact absurd rfl c.2.2.1
 have p3:=tw.pu3 g.A9 ⟨Et e.Bb e.Seq,((Et e.Bb e.Seq).length:Int)⟩;refine⟨b0,l0,m',k,x,tw,Z,G,q,?_,?_,?_,?_,?_,?_⟩
 .rw[E];exact p3.2.1.trans so
 .rw[E];exact p3.1
 .rw[E];refine p3.2.2.trans ?_;rw[B];refine p2.2.2.trans ?_;rw[h];exact p1.2.2
 .rw[E,B,h];rfl
 .rw[E,B,h];rfl
 .rw[E,B,h];rfl
theorem AMO{a:B0}{p:Int}(h:(Ky a p).2=true):Gb a=true/\0<=p/\p<=a.Data.length/\a.Safe=a.Data.length/\(Ky a p).1=⟨a.Data.drop p.toNat,(a.Data.length:Int)-p⟩:=by
 unfold Ky at h ⊢;split
 .rename_i e;obtain⟨g,c,j⟩:=e;rw[CP]at c;exact⟨g,c.1,c.2,j,rfl⟩
 .rename_i e;rw[AU e]at h;cases h
theorem AJD{a:B0}(h:Gb a=true):JS a 0=⟨a.Data.take a.Safe.toNat,a.Safe⟩/\Gb (JS a 0)=true/\(JS a 0).Safe=(JS a 0).Data.length:=by
 have g:=Fs.1 h;have e:ku a 0=a.Safe:=by
  unfold ku;split
  .rfl
  .split<;>omega
 have c:JS a 0=⟨a.Data.take a.Safe.toNat,a.Safe⟩:=by unfold JS;rw[AX h,e]
 rw[c];refine⟨rfl,Fs.2 ⟨?_,?_,?_⟩,?_⟩<;>dsimp only<;>(try rw[BI])<;>omega
theorem AFF:JS ⟨[],0⟩ 0=⟨[],0⟩:=by
 obtain⟨h,_⟩:=AJD (a:=⟨[],0⟩) rfl;rw[h];rfl
theorem cm{s s':Bo}{k:Int}(h:DQ s' k=JS (DQ s k) 0):FZ s' k=FZ s k:=by
 unfold FZ;rw[HB,HB,AB,AB,GQ,GQ,AB,AB,h];cases a:Gb (DQ s k) with
 |false=>
  have:JS (DQ s k) 0=DQ s k:=by unfold JS;rw[a];rfl
  rw[this,a]
 |true=>
  obtain⟨e,c,_⟩:=AJD a;have g:=Fs.1 a;rw[c,e,B6 g.2,B6 (by dsimp only;rw[BI];omega)];dsimp only;rw[List.take_take,Nat.min_self]
theorem Tv(s:Bo)(k:Int):DQ (E0 s []) k=JS (DQ s k) 0:=by unfold DQ E0;split<;>rfl
theorem aB{s s':Bo}(e:FZ s' 0=FZ s 0)(g:FZ s' 1=FZ s 1):K7 s'=K7 s:=by
 obtain⟨x,a,_⟩:=EW s 0;obtain⟨y,c,_⟩:=EW s 1;rw[NS a c,NS (e.trans a) (g.trans c)]
theorem ACi{s:Bo}{n:Int}{q:AE×Int×Bool}(h:(Ml s n q).2.2=true):II s=true/\¬n<0/\Ml s n q=((IQ (notes (aft q.2.1 (Da s.Log.Data))) q.1).1,q.2.1+(notes (aft q.2.1 (Da s.Log.Data))).length,true):=by
 unfold Ml at h ⊢;split
 .rename_i a;exact⟨a.1,a.2,rfl⟩
 .rename_i a;rw[AU a]at h;cases h
theorem AJx{e:Af}(a:B5 e){n g:Int}{q q':AE×Int×Bool}(h:dF (E0 e.A9 [20000,20000,20000]) n q)(y:dF (E0 e.A9 []) g q') :
 jj e=some (Zw e (Ml (E0 e.A9 [20000,20000,20000]) n q) (Ml (E0 e.A9 []) g q') (Rq (E0 e.A9 [20000,20000,20000]) n q)):=by
 obtain⟨j,L,O⟩:=Py a [20000,20000,20000];obtain⟨m1,m2,m3⟩:=Py a [];obtain⟨G,Q,H⟩:=recovered j h;obtain⟨s1,S,I⟩:=recovered m1 y;have J:=Zz j h;have E:=(NV e.Laid a.EB).1;unfold jj Pw Sl;simp only[GR a,AB];cases c:Ev e with
 |false=>unfold Zw;rw[c];rfl|true=>
  have B:Gb e.A9.Log=true:=by have:=(J9 c).2.1;unfold II at this;grind
  have ee:(E0 e.A9 [20000,20000,20000]).Log.Data=e.A9.Log.Data:=ZZ B;simp only[RO a.EB a.laid,bN,G,s1,J,AB,AR,JB H E,JB I a.EB,ee];generalize Ml (E0 e.A9 [20000,20000,20000]) n q=r;generalize Ml (E0 e.A9 []) g q'=r';generalize Rq (E0 e.A9 [20000,20000,20000]) n q=u;simp only[bne];unfold Zw;rw[c];cases r.2.2<;>cases (r.2.1==e.Seq)<;>cases (u==(e.A9.Log.Data.length:Int))<;>cases PC r.1 (IQ e.Laid e.Bb).1<;>cases r'.2.2<;>cases (r'.2.1==w64 (e.Seq-(e.Laid.length:Int)))<;>cases PC r'.1 e.Bb<;>rfl
theorem AXi{c:AZ}(a:CL c):∃x,AIY c=some x/\B5 x.1/\CL x.2:=by
 unfold AIY;obtain⟨e,ee,fe,_,ce⟩:=AVo a;obtain⟨o,eo,co⟩:=MV ce 6;have h:∀c e,CL c->B5 e->∃x,XH (c,e)=some x/\B5 x.1/\CL x.2:=by
  intro c e a g;unfold XH jk;dsimp only;obtain⟨o,eo,co⟩:=MV a 3;rw[eo,AB,Bn];split
  .obtain⟨k,ek,_,_,_,ck⟩:=CU co 5;obtain⟨m,em,fm,_,_⟩:=nY g k.1;rw[ek,AB,em,AB,AR];exact⟨_,rfl,fm,ck⟩
  .rw[AR];exact⟨_,rfl,g,co⟩
 rw[ee,AB,eo,AB,Bn];split
 .rw[UD fe,AB,AR];exact h _ _ co (Zv fe).1
 .rw[AR];exact h _ _ co fe
theorem AMb{s:List UInt8}(e:s.length<=1048576):∃x,AIZ s=some x/\B5 x.1:=by
 unfold AIZ;obtain⟨c,ec,a⟩:=AaI e;obtain⟨x,ex,fx,cx⟩:=AXi a;obtain⟨k,ek,_⟩:=Ht cx (l:=[0,1,2,3,4,4,4,5,-1,9223372036854775807]) (by simp);rw[ec,AB,ex,AB,ek,AB];exact⟨_,rfl,fx⟩
theorem AVF{e f:Af}(J:B5 e){r:Af×Bool}(hm:Sk e 4=some r)(hr:r.2=true)(hf:r.1=f)(ff:B5 f) :
 Ev f=true/\(jj e=some true->f.A9.Log=⟨[],0⟩/\∃q,(ABP (E0 f.A9 [])=some (⟨q,(E0 f.A9 []),e.Seq,[]⟩,true)/\UW q e.Bb=some true)):=by
 obtain⟨e1,e2,a,a0,f1,a1,f2,a2,f3,a3⟩:=ADU J hm hr;rw[hf]at a3;obtain⟨b0,l0,n,k,x,tw,hn,hx,L,so,sk,sl,sh,sq,sd⟩:=AYM J f1 f2 a0 a1 a2;obtain⟨O,_,m,h,_,c3⟩:=dB f3 a3;obtain⟨B,y,g1,Q⟩:∃q,FZ a.A9 m=some q/\(Ky a.A9.Log (RZ q.2.1 0 (Da a.A9.Log.Data))).2=true/\f=⟨a.Bb,⟨(Ky a.A9.Log (RZ q.2.1 0 (Da a.A9.Log.Data))).1,a.A9.FH,a.A9.Odd⟩,a.Seq,a.Laid⟩:=by
  rcases c3 with c|c|c|c
  .exact absurd c.1 (by decide)
  .exact absurd c.1 (by decide)
  .exact absurd c.1 (by decide)
  .exact c.2.2.2
 obtain⟨w1,w2,w3,w4,w5⟩:=AMO g1;rw[w5]at Q;have S:Ev f=true:=by
  have hk:=Fs.1 w1;have:Gb ⟨a.A9.Log.Data.drop (RZ B.2.1 0 (Da a.A9.Log.Data)).toNat,(a.A9.Log.Data.length:Int)-RZ B.2.1 0 (Da a.A9.Log.Data)⟩=true:=by
   refine Fs.2 ⟨?_,?_,?_⟩<;>dsimp only<;>(try rw[List.length_drop])<;>omega
  rw[Q];unfold Ev II at O ⊢;simp only[AF]at O ⊢;exact⟨O.1,⟨this,O.2.1.2⟩,O.2.2⟩
 refine⟨S,fun hso=>?_⟩;obtain⟨n5,q5,R5⟩:=mD (E0 e.A9 [20000,20000,20000]);obtain⟨n6,q6,R6⟩:=mD (E0 e.A9 []);rw[AJx J R5 R6]at hso;have hs:=Option.some.inj hso;unfold Zw at hs;simp only[AF,beq_iff_eq]at hs;obtain⟨_,⟨t1,t2,t3,t4⟩,t5,t6,t7⟩:=hs;obtain⟨u1,u2,u3⟩:=ACi t1;obtain⟨v1,v2,v3⟩:=ACi t5;have X:=J9 b0;have e6:n6=n:=by
  have:=aB (s:=e.A9) (s':=E0 e.A9 []) (cm (Tv _ _)) (cm (Tv _ _));rw[R6.sn,hn]at this;exact Option.some.inj this
 subst e6;have eq6:q6=x:=by
  have:=R6.sr;rw[cm (Tv _ _),hx]at this;exact(Option.some.inj this).symm
 subst eq6;rw[v3]at t6 t7;rw[u3]at t2;dsimp only at t2 t6 t7;rw[l0,AN,A6 (by omega) (by omega)]at t6;have G:(E0 e.A9 [20000,20000,20000]).Log.Data=e.A9.Log.Data:=ZZ (by rw[<-sl];exact w1);unfold Rq at t3;rw[AX ⟨u1,u2⟩,<-YR,t2,G]at t3;rw[G]at t2;have hup:RZ e.Seq 0 (Da e.A9.Log.Data)=e.A9.Log.Data.length:=mr (t:=e.Seq) _ _ _ (AN8 _ _ _) (by omega) t3;have H:FZ a.A9 k=some (e.Bb,e.Seq,true):=AVd X.1 J.EB (CP.2 (by omega)) sk;have I:FZ a.A9 n6=some q6:=(OQ so).trans hx;have T:=tw.nw3 I H;have hq:B.2.1=e.Seq/\UW B.1 e.Bb=some true/\Bk B.1:=by
  rcases T.2.2 L rfl (by dsimp only;omega) with g|g
  .rw[h]at g;cases g;rw[I]at y;cases y;have:B.2.1=e.Seq:=by
    rcases Int.lt_or_le B.2.1 e.Seq with g'|g'
    .have:=T.2.1 L rfl g';rw[h]at this;rcases tw with ⟨rfl,rfl⟩|⟨rfl,rfl⟩<;>cases this
    .omega
   refine⟨this,?_,R6.fit⟩;have hz:notes (aft B.2.1 (Da (E0 e.A9 []).Log.Data))=[]:=EI.1 (by omega);rw[hz]at t7;rw[JB R6.fit J.EB];exact congrArg some t7
  .rw[h]at g;cases g;rw[H]at y;cases y;exact⟨rfl,AF0 J.EB X.1,J.EB⟩
 rw[hq.1,sl,hup]at Q;have Z:f.A9.Log=⟨[],0⟩:=by
  rw[Q];dsimp only;rw[Ah,List.drop_length,Int.sub_self]
 refine⟨Z,B.1,?_,hq.2.1⟩;have E:=(J9 S).2.1;unfold II at E;simp only[AF]at E;have sf:∀j,DQ f.A9 j=DQ a.A9 j:=by intro j;rw[Q];rfl
 have rf:∀j,FZ (E0 f.A9 []) j=FZ a.A9 j:=fun j=>(cm (Tv _ _)).trans (OQ (sf j))
 obtain⟨n7,q7,R7⟩:=mD (E0 f.A9 []);have e7:n7=m:=by
  have:=aB (s:=a.A9) (s':=E0 f.A9 []) (rf 0) (rf 1);rw[R7.sn,h]at this;exact Option.some.inj this
 subst e7;have e8:q7=B:=by
  have:=R7.sr;rw[rf,y]at this;exact(Option.some.inj this).symm
 subst e8;obtain⟨y1,y2,y3⟩:=AJD E.2.1;obtain⟨z1,z2,z3⟩:=AJD E.2.2;have hL:(E0 f.A9 []).Log=⟨[],0⟩:=by unfold E0;dsimp only;rw[Z];exact AFF
 have hst:II (E0 f.A9 [])=true:=by
  unfold II;rw[hL];simp only[AF];exact⟨rfl,y2,z2⟩
 have hcalm:aE (E0 f.A9 [])=true:=by
  unfold aE;rw[hL];simp only[AF,beq_iff_eq];exact⟨rfl,y3,z3⟩
 have Y:Da ([]:List UInt8)=[]:=EI.1 (by have:=KA [];simpa using this);obtain⟨k1,k2,k3⟩:=Py ff [];rw[(AZl k1 k2 k3 R7).2.1];have n0:¬n7<0:=by
  rcases T.2.2 L rfl (by dsimp only;omega) with g|g<;>rw[h]at g<;>cases g<;>rcases tw with ⟨rfl,rfl⟩|⟨rfl,rfl⟩<;>omega
 have hrec:Ml (E0 f.A9 []) n7 q7=(q7.1,e.Seq,true):=by
  unfold Ml;rw[AX ⟨hst,n0⟩,hL,Y,hq.1];show ((IQ [] q7.1).1,e.Seq+0,true)=_;rw[Int.add_zero];rfl
 have hused:Rq (E0 f.A9 []) n7 q7=0:=by
  unfold Rq;rw[AX ⟨hst,n0⟩,hL,Y];rfl
 unfold yL;rw[hrec,hused,AX ⟨rfl,hcalm⟩,hL];have ht:Rp (bS ⟨[],0⟩ 0).1=⟨[],0⟩:=rfl;rw[ht,<-hL]
theorem ri{s:List UInt8}(_:okL okT s):J2 s=some true:=by
 unfold J2;rw[ARW,AB,BL];split
 .rfl
 obtain⟨x,ex,fx⟩:=AMb (s:=s) (by omega);have e:=(Zv fx).1;obtain⟨r,j,H,y⟩:=AJu e 4;rw[ex,AB,UD fx,AB,H,AB,j,AB];generalize (MR x.1)=z at *;unfold J8 EF;cases a:r.2 with
 |false=>simp[Bn,AR,a]|true=>
  obtain⟨m1,m2⟩:=AVF e j a rfl y;obtain⟨b,c,_⟩:=ADV e;cases b with
  |false=>simp[Bn,AR,a,c,GR y,m1]|true=>
   obtain⟨h,q,B,E⟩:=m2 c;have G:r.1.A9.Log.Data.length<=1048576:=by rw[h];simp
   have g:Da ([]:List UInt8)=[]:=EI.1 (by have:=KA [];simpa using this);simp[Bn,AR,a,c,ar,B,E,h,XU G,g,RZ]
end Lv.P
