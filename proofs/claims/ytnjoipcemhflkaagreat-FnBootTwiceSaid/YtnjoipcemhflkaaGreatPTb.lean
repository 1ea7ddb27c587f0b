/- Plain laws about what the program computes. -/
import Derived.Test.YtnjoipcemhflkaaGreatPQb
import Derived.Test.YtnjoipcemhflkaaGreatPSb
set_option linter.unusedVariables false
set_option linter.unusedSimpArgs false
set_option linter.unusedSectionVars false
open Int renaming eq_ofNat_of_zero_le->AX
open List renaming length_append->AK
open Nat renaming le_trans->Av,lt_or_ge->AZ
namespace Lv.P
open Lv Go
theorem oS{c:Ax}(j:C6 c)(n:Nat)(q:n<=1000):∃x,AB2 c (n:Int)=some x/\x.1.length=n/\C6 x.2:=by
 unfold AB2;refine Pz (n:=n) (fun i (v:List UInt8×Ax)=>(v.1,(i:Int),v.2)) (fun i v=>v.1.length=i/\C6 v.2) _ (by omega) ?_ (v:=([],c)) ⟨rfl,j⟩;rintro L i ⟨l,c⟩ ⟨e,a⟩ hi h;unfold AB4 AB3;dsimp only at e a h ⊢;rw[dec_lt];rcases AZ i n with g|g
 .obtain⟨x,ex,_,_,cx⟩:=tY a;rw[decide_eq_true g,BP,ex,AB,B8 (by simp only[List.length_cons,List.length_nil];unfold lim;omega),Bn g (by omega)];exact h (_,_) ⟨by simp[e],cx⟩ g
 .rw[decide_eq_false (by omega),Bb,AV];exact⟨_,rfl,by dsimp only;omega,a⟩
theorem AIz{c:Ax}(h:C6 c){l:List UInt8}(G:l.length<=1048576):∃x,Po c l=some x/\x.1.length<=l.length+2/\C6 x.2:=by
 unfold Po;rw[V9,BQ];split
 .obtain⟨x,ex,H,cx⟩:=oS h 2 (by omega);rw[show (2:Int)=((2:Nat):Int) from rfl,ex,AB];exact⟨_,rfl,by dsimp only;omega,cx⟩
 .rename_i g;have j:0<l.length:=by cases l with|nil=>exact absurd rfl g|cons=>simp
  obtain⟨a,ea,q,_,a3,ca⟩:=DI h (l.length:Int);obtain⟨b,eb,B,_,E,cb⟩:=DI ca 255;have:=a3 (by omega);obtain⟨k,y⟩:=AX q;have e:k<l.length:=by omega
  rw[ea,AB,y,BG e,AB,AB,eb,AB,AB,AB];exact⟨_,rfl,by simp,cb⟩
theorem AZ8{c:Ax}(j:C6 c){l:List (List UInt8)}(y:l≠[]):∃r,bN c l=some r/\C6 r.2/\r.1∈l:=by
 unfold bN;obtain⟨a,ea,h,_,a3,ca⟩:=DI j (l.length:Int);have g:0<l.length:=by cases l with|nil=>exact absurd rfl y|cons=>simp
 have:=a3 (by omega);obtain⟨k,q⟩:=AX h;have e:k<l.length:=by omega
 rw[ea,AB,q,BG e,AB];exact⟨_,rfl,ca,List.getElem_mem e⟩
theorem AbJ{c:Ax}(G:C6 c):∃x,jg c=some x/\x.1.length<=1000/\C6 x.2:=by
 unfold jg;obtain⟨a,ea,B,_,a3,ca⟩:=DI G 5;obtain⟨b,eb,Q,_,S,cb⟩:=DI ca 4;have:=a3 (by omega);obtain⟨n,H⟩:=AX B;rw[ea,AB,eb,AB];refine Pz (n:=n) (fun i (v:List UInt8×Int×Ax)=>(v.1,v.2.1,(i:Int),v.2.2)) (fun i v=>v.1.length<=80*i/\C6 v.2.2) _ (by omega) ?_ (v:=([],_,b.2)) ⟨by simp,cb⟩;rintro L i ⟨l,q,c⟩ ⟨E,e⟩ hi h;unfold AgR;dsimp only at E e h ⊢;rw[H,dec_lt];rcases AZ i n with g|g
 .obtain⟨x,ex,J,_,O,cx⟩:=DI e 6;have:=O (by omega);obtain⟨m,Y⟩:=AX J;obtain⟨y,ey,ly,cy⟩:=oS cx (m+1) (by omega);obtain⟨o,eo,co⟩:=U4 cy 8;have I:w64 (1+x.1)=((m+1:Nat):Int):=by rw[A2 (by omega) (by omega)];omega
  have X:=vS q y.1;rw[decide_eq_true g,BP,ex,AB,I,ey,AB,Kz,AB,B8 (by unfold Mn;omega),eo,AB,Bi];unfold AeS;split
  .obtain⟨z,ez,_,_,_,cz⟩:=DI co 6;rw[ez,AB,AV];dsimp only;rw[Bn g (by omega)];exact h (_,_,_) ⟨by simp only[AK];omega,cz⟩ g
  .rw[AV];dsimp only;rw[Bn g (by omega)];exact h (_,_,_) ⟨by simp only[AK];omega,co⟩ g
 .rw[decide_eq_false (by omega),Bb,AV];unfold AgQ;dsimp only;obtain⟨x,ex,_,_,_,cx⟩:=DI e 4;rw[ex,AB,Bi];split
  .obtain⟨y,ey,Z,_,j,cy⟩:=DI cx (w64 ((l.length:Int)+1));rw[A2 (by omega) (by omega)]at j;have:=j (by omega);rw[ey,AB,B8 (by omega)];exact⟨_,rfl,by simp only[List.length_take];omega,cy⟩
  .rw[Bi];split
   .obtain⟨y,ey,ly,cy⟩:=AIz cx (l:=l) (by omega);rw[ey,AB];exact⟨_,rfl,by dsimp only;omega,cy⟩
   .exact⟨_,rfl,by dsimp only;omega,cx⟩
theorem AVP{c:Ax}(a:C6 c):∃x,AKq c=some x/\x.1.Data.length<=1000/\C6 x.2:=by
 have e:∀(l:List UInt8) c,l.length<=1000->C6 c->∃x,AcS (l,c)=some x/\x.1.Data.length<=1000/\C6 x.2:=by
  intro l c j a;unfold AcS;dsimp only;obtain⟨y,ey,_,_,_,cy⟩:=DI a (w64 ((l.length:Int)+1));rw[ey,AB];exact⟨_,rfl,j,cy⟩
 have q:∃x,AKp c=some x/\x.1.Data.length<=1000/\C6 x.2:=by
  unfold AKp;obtain⟨x,ex,cx,mx⟩:=AZ8 a (l:=[[],[97],[115,111,109,101,32,98,121,116,101,115],[0,1,2,3]]) (by simp);obtain⟨o,eo,co⟩:=U4 cx 3;rw[ex,AB,eo,AB,Bi];split
  .obtain⟨y,ey,ly,cy⟩:=AbJ co;rw[ey,AB,AV];exact e _ _ ly cy
  .rw[AV];refine e _ _ ?_ co;simp only[List.mem_cons,List.not_mem_nil,or_false]at mx;rcases mx with h|h|h|h<;>rw[h]<;>simp
 unfold AKq;obtain⟨x,ex,lx,cx⟩:=q;obtain⟨k,ek,_,_,_,ck⟩:=DI cx 12;have g:∀b,∃y,jh x k b=some y/\y.1.Data.length<=1000/\C6 y.2:=by
  intro b;unfold jh AcT;rw[Bi];split<;>rw[AV]<;>exact⟨_,rfl,lx,ck⟩
 rw[ex,AB,ek,AB,Bi];split
 .obtain⟨y,ey,cy,_⟩:=Yg ck (l:=[-1,w64 ((x.1.Data.length:Int)+1),9223372036854775807,-9223372036854775808]) (by simp);rw[ey,AB,AV];exact⟨_,rfl,lx,cy⟩
 .rw[Bi];split
  .rw[AV];exact g _
  .rw[Bi];split<;>rw[AV]<;>exact g _
def Sml(B:Nat)(s:BZ):Prop:=s.Log.Data.length<=B/\s.DW.Data.length<=B/\s.Odd.Data.length<=B
theorem Sml.pu3{B:Nat}{s:BZ}(h:Sml B s){a:Bp}(c:a.Data.length<=B)(k:Int):Sml B (YG s k a):=by
 unfold YG;split
 .exact⟨h.1,c,h.2.2⟩
 .exact⟨h.1,h.2.1,c⟩
theorem Sml.sl3{B:Nat}{s:BZ}(h:Sml B s)(k:Int):(E7 s k).Data.length<=B:=by
 unfold E7;split
 .exact h.2.1
 .exact h.2.2
theorem aq{B:Nat}(hB:20000<=B){a:Bp}(h:a.Data.length<=B)(s:List UInt8):(G7 a s).1.Data.length<=B:=by
 grind[G7,List.length_append]
theorem pA{e:Ap}(a:Cc e)(p:Int):∃r,AQs e p=some r/\Cc r.1/\r.1.Laid=e.Laid/\(Sml 30000 e.BH->Sml 30000 r.1.BH):=by
 obtain⟨r,h,_,c⟩:=UZ a p;refine⟨r,h,c,?_⟩;obtain⟨n,g,y,B⟩:=QY e.BH;obtain⟨r',j,E,_⟩:=GL e.BH n;have q:=n7 a (w64 (1-n));unfold AQs Abu Abl at h;simp only[I3 a,HQ a,Gk,AB,AV,g,JF,YZ,Lu a.EY,TU (Av (JP e.BO e.Seq) (by omega)),UJ,j,YY a.log,tT,Bi]at h
 repeat' split at h
 all_goals cases h
 all_goals refine⟨rfl,fun hS=>?_⟩
 all_goals first|exact hS|exact hS.pu3 (by simp) _|exact hS.pu3 (aq (by omega) (hS.sl3 _) _) _|exact hS.pu3 (by rw[OG];exact hS.sl3 _) _|exact Sml.pu3 (s:=⟨(TS e.BH.Log _).1,e.BH.DW,e.BH.Odd⟩) ⟨Av (tQ _ _) hS.1,hS.2⟩ (hS.sl3 _) _
theorem AM0{e:Ap}(j:Cc e)(p:Int):∃r,AQt e p=some r/\Cc r.1/\r.1.Laid=e.Laid/\(Sml 30000 e.BH->Sml 30000 r.1.BH):=by
 unfold AQt;rw[I3 j,AB];refine Ks (fun x:Int×Ap=>0<=x.1/\x.1<=4/\Cc x.2/\x.2.Laid=e.Laid/\(Sml 30000 e.BH->Sml 30000 x.2.BH)) (fun x=>(4-x.1).toNat) (fun r:Ap×Bool=>Cc r.1/\r.1.Laid=e.Laid/\(Sml 30000 e.BH->Sml 30000 r.1.BH)) ?_ big (0,e) ⟨by omega,by omega,j,rfl,id⟩ (JK _ (by simp));rintro L ⟨i,x⟩ ⟨y,B,c,a,hS⟩ q;unfold AgV AgU;dsimp only at y B c a hS q ⊢;rw[S9,AB,BQ];by_cases g:i<(if p<4 then p else 4)
 .have J:i<4:=by split at g<;>omega
  rw[AW g];obtain⟨r,E,G,H,I⟩:=pA c i;rw[E,AB,BK];cases r.2 with
  |false=>exact⟨(x,false),rfl,c,a,hS⟩|true=>
   rw[BP,A2 (by omega) (by omega)];exact q (i+1,r.1) ⟨by omega,by omega,G,H.trans a,fun h=>I (hS h)⟩ (by dsimp only;omega)
 .rw[AR g,AV];exact⟨(x,true),rfl,c,a,hS⟩
def R0(e:Ap):Prop:=Cc e/\e.Laid.length<=8/\Sml 30000 e.BH
theorem AYT{e:Ap}(h:R0 e)(q:B3):R0 (K7 e q).1:=by
 refine⟨Xw h.1 q,?_,?_⟩
 .have:=h.2.1
  grind[K7,VG,List.length_append,List.length_singleton]
 .have hS:=h.2.2;unfold K7
  repeat' split
  all_goals first|exact hS|exact⟨aq (by omega) hS.1 _,hS.2⟩
theorem AXn{e:Ap}(h:R0 e):R0 (JZ e).1:=by
 refine⟨(tO h.1).1,?_⟩;have:=h.2;unfold JZ;split
 .exact this
 .exact⟨by simp,by dsimp only;rw[OG];exact this.2.1,this.2.2⟩
theorem call8{e:Ap}(h:R0 e)(q:B3):R0 (AJS e q).1:=by
 unfold AJS;split
 .exact h
 .exact AXn (AYT h q)
theorem AbE{r:Aa}(a:r.AY.length<=1048576):R0 (FW r).1:=by
 have hT:=JP (DU r).1 0;refine⟨Ug a,?_⟩;unfold FW;split
 .exact⟨by simp,by simp,by dsimp only;omega,by simp⟩
 .exact⟨by simp[Hj],by simp[Hj],by simp[Hj],by simp[Hj]⟩
theorem AZ5{x:Int×Ax}(y:0<=x.1)(H:x.1<=1000)(B:C6 x.2){e:Ap}(E:R0 e):∃r,BD (Aee x) big (0,x.2,e)=some r/\R0 r.1/\C6 r.2:=by
 obtain⟨n,G⟩:=AX y;refine Pz (n:=n) (fun i (v:Ax×Ap)=>((i:Int),v.1,v.2)) (fun i v=>C6 v.1/\R0 v.2) _ (by omega) ?_ (v:=(x.2,e)) ⟨B,E⟩;rintro L i ⟨c,e⟩ ⟨h,a⟩ hi j;unfold Aee Aga;dsimp only at h a j ⊢;rw[G,dec_lt];rcases AZ i n with g|g
 .obtain⟨q,eq,cq⟩:=AZ3 h a.1.EY;rw[decide_eq_true g,BP,eq,AB,YX a.1,AB,Bn g (by omega)];exact j (_,_) ⟨cq,AYT a _⟩ g
 .rw[decide_eq_false (by omega),Bb,AV];exact⟨_,rfl,a,h⟩
theorem AMp{c:Ax}(h:C6 c):∃r,ALB c=some r/\R0 r.1/\C6 r.2:=by
 unfold ALB;obtain⟨x1,X,s1,_,Q⟩:=AVQ h;obtain⟨x3,Y,a3,_,O,S⟩:=DI Q 14;rw[X,AB,AD0 (by omega),AB,Y,AB];have hb:=O (by omega);obtain⟨n,Z⟩:=AX a3;refine Pz (n:=n) (fun i (v:Ax×Ap)=>((i:Int),v.1,v.2)) (fun i v=>C6 v.1/\R0 v.2) _ (by omega) ?_ (v:=(x3.2,(FW x1.1).1)) ⟨S,AbE (by omega)⟩;rintro L i ⟨c,e⟩ ⟨B,a⟩ hi G;unfold Agb;dsimp only at B a G ⊢;rw[Z,dec_lt];rcases AZ i n with g|g
 .rw[decide_eq_true g,BP];have J:∀c e,C6 c->R0 e->∃r,AcW L (i:Int) (c,e)=some r/\R0 r.1/\C6 r.2:=by
   intro c e h j;unfold AcW;dsimp only;rw[Bn g (by omega)];exact G (_,_) ⟨h,j⟩ g
  have I:∀c e,C6 c->R0 e->∃r,AcV L (i:Int) (c,e)=some r/\R0 r.1/\C6 r.2:=by
   intro c e h j;unfold AcV;dsimp only;obtain⟨y,ey,cy⟩:=U4 h 8;rw[ey,AB,Bi];split
   .have E:=AXn j;obtain⟨z,ez,_,_,_,cz⟩:=DI cy 5;obtain⟨m,em,fm,lm,sm⟩:=AM0 E.1 z.1;rw[aX j.1,AB,ez,AB,em,AB,AV];exact J _ _ cz ⟨fm,by rw[lm];exact E.2.1,sm E.2.2⟩
   .rw[AV];exact J _ _ cy j
  have H:∀c q,C6 c->∃r,Sd L (i:Int) e (c,q)=some r/\R0 r.1/\C6 r.2:=by
   intro c q h;unfold Sd;dsimp only;obtain⟨y,ey,cy⟩:=U4 h 5;rw[ey,AB,Bi];split
   .rw[YX a.1,AB,AV];exact I _ _ cy (AYT a _)
   .rw[APV a.1,AB,AV];exact I _ _ cy (call8 a _)
  obtain⟨q,eq,cq⟩:=AZ3 B a.1.EY;obtain⟨o,eo,co⟩:=U4 cq 2;rw[eq,AB,eo,AB,Bi];split
  .obtain⟨l,el,cl⟩:=AZ6 co a.1.EY;rw[el,AB,AV];exact H _ _ cl
  .rw[AV];exact H _ _ co
 .rw[decide_eq_false (by omega),Bb,AV];unfold AgZ;dsimp only;obtain⟨y,ey,ay,_,by_,cy⟩:=DI B 4;rw[ey,AB];exact AZ5 ay (by have:=by_ (by omega);omega) cy a
end Lv.P
