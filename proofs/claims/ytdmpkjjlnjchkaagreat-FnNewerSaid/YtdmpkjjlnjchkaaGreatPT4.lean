/- Plain laws about what the program computes. -/
import Derived.Test.YtdmpkjjlnjchkaaGreatPQ4
import Derived.Test.YtdmpkjjlnjchkaaGreatPS4
set_option linter.unusedVariables false
set_option linter.unusedSimpArgs false
set_option linter.unusedSectionVars false
open Int renaming eq_ofNat_of_zero_le->Ab
open List renaming length_append->AM,length_cons->AH,length_nil->AN,length_take->BS,mem_cons->Ag,not_mem_nil->EE
open Nat renaming le_trans->Au,lt_or_ge->AT
namespace Lv.P
open Lv Go
theorem AcW{c:AX}(j:CI c)(n:Nat)(q:n<=1000):∃x,AYN c (n:Int)=some x/\x.1.length=n/\CI x.2:=by
 unfold AYN;refine Hl (n:=n) (fun i (v:List UInt8×AX)=>(v.1,(i:Int),v.2)) (fun i v=>v.1.length=i/\CI v.2) _ (by omega) ?_ (v:=([],c)) ⟨rfl,j⟩;rintro L i ⟨l,c⟩ ⟨e,a⟩ hi h;unfold AtF Awa;dsimp only at e a h ⊢;rw[dec_lt];rcases AT i n with g|g
 .obtain⟨x,ex,_,_,cx⟩:=ADD a;rw[decide_eq_true g,BH,ex,AB,B9 (by simp only[AH,AN];unfold lim;omega),BU g (by omega)];exact h (_,_) ⟨by simp[e],cx⟩ g
 .rw[decide_eq_false (by omega),BN,AR];exact⟨_,rfl,by dsimp only;omega,a⟩
theorem AcY{c:AX}(h:CI c){l:List UInt8}(G:l.length<=1048576):∃x,AQ2 c l=some x/\x.1.length<=l.length+2/\CI x.2:=by
 unfold AQ2;rw[eG,BA];split
 .obtain⟨x,ex,H,cx⟩:=AcW h 2 (by omega);rw[show (2:Int)=((2:Nat):Int) from rfl,ex,AB];exact⟨_,rfl,by dsimp only;omega,cx⟩
 .rename_i g;have j:0<l.length:=by cases l with|nil=>exact absurd rfl g|cons=>simp
  obtain⟨a,ea,q,_,a3,ca⟩:=CQ h (l.length:Int);obtain⟨b,eb,B,_,E,cb⟩:=CQ ca 255;have:=a3 (by omega);obtain⟨k,y⟩:=Ab q;have e:k<l.length:=by omega
  rw[ea,AB,y,A7 e,AB,AB,eb,AB,AB,AB];exact⟨_,rfl,by simp,cb⟩
theorem AhW{c:AX}(j:CI c){l:List (List UInt8)}(y:l≠[]):∃r,nK c l=some r/\CI r.2/\r.1∈l:=by
 unfold nK;obtain⟨a,ea,h,_,a3,ca⟩:=CQ j (l.length:Int);have g:0<l.length:=by cases l with|nil=>exact absurd rfl y|cons=>simp
 have:=a3 (by omega);obtain⟨k,q⟩:=Ab h;have e:k<l.length:=by omega
 rw[ea,AB,q,A7 e,AB];exact⟨_,rfl,ca,List.getElem_mem e⟩
theorem AiV{c:AX}(G:CI c):∃x,nL c=some x/\x.1.length<=1000/\CI x.2:=by
 unfold nL;obtain⟨a,ea,B,_,a3,ca⟩:=CQ G 5;obtain⟨b,eb,Q,_,S,cb⟩:=CQ ca 4;have:=a3 (by omega);obtain⟨n,H⟩:=Ab B;rw[ea,AB,eb,AB];refine Hl (n:=n) (fun i (v:List UInt8×Int×AX)=>(v.1,v.2.1,(i:Int),v.2.2)) (fun i v=>v.1.length<=80*i/\CI v.2.2) _ (by omega) ?_ (v:=([],_,b.2)) ⟨by simp,cb⟩;rintro L i ⟨l,q,c⟩ ⟨E,e⟩ hi h;unfold BCx;dsimp only at E e h ⊢;rw[H,dec_lt];rcases AT i n with g|g
 .obtain⟨x,ex,J,_,O,cx⟩:=CQ e 6;have:=O (by omega);obtain⟨m,Y⟩:=Ab J;obtain⟨y,ey,ly,cy⟩:=AcW cx (m+1) (by omega);obtain⟨o,eo,co⟩:=Me cy 8;have I:w64 (1+x.1)=((m+1:Nat):Int):=by rw[Ai (by omega) (by omega)];omega
  have X:=AD1 q y.1;rw[decide_eq_true g,BH,ex,AB,I,ey,AB,PN,AB,B9 (by unfold On;omega),eo,AB,BZ];unfold Ath;split
  .obtain⟨z,ez,_,_,_,cz⟩:=CQ co 6;rw[ez,AB,AR];dsimp only;rw[BU g (by omega)];exact h (_,_,_) ⟨by simp only[AM];omega,cz⟩ g
  .rw[AR];dsimp only;rw[BU g (by omega)];exact h (_,_,_) ⟨by simp only[AM];omega,co⟩ g
 .rw[decide_eq_false (by omega),BN,AR];unfold gp;dsimp only;obtain⟨x,ex,_,_,_,cx⟩:=CQ e 4;rw[ex,AB,BZ];split
  .obtain⟨y,ey,Z,_,j,cy⟩:=CQ cx (w64 ((l.length:Int)+1));rw[Ai (by omega) (by omega)]at j;have:=j (by omega);rw[ey,AB,B9 (by omega)];exact⟨_,rfl,by simp only[BS];omega,cy⟩
  .rw[BZ];split
   .obtain⟨y,ey,ly,cy⟩:=AcY cx (l:=l) (by omega);rw[ey,AB];exact⟨_,rfl,by dsimp only;omega,cy⟩
   .exact⟨_,rfl,by dsimp only;omega,cx⟩
theorem AcV{c:AX}(a:CI c):∃x,ARZ c=some x/\x.1.Data.length<=1000/\CI x.2:=by
 have e:∀(l:List UInt8) c,l.length<=1000->CI c->∃x,A9l (l,c)=some x/\x.1.Data.length<=1000/\CI x.2:=by
  intro l c j a;unfold A9l;dsimp only;obtain⟨y,ey,_,_,_,cy⟩:=CQ a (w64 ((l.length:Int)+1));rw[ey,AB];exact⟨_,rfl,j,cy⟩
 have q:∃x,nM c=some x/\x.1.Data.length<=1000/\CI x.2:=by
  unfold nM;obtain⟨x,ex,cx,mx⟩:=AhW a (l:=[[],[97],[115,111,109,101,32,98,121,116,101,115],[0,1,2,3]]) (by simp);obtain⟨o,eo,co⟩:=Me cx 3;rw[ex,AB,eo,AB,BZ];split
  .obtain⟨y,ey,ly,cy⟩:=AiV co;rw[ey,AB,AR];exact e _ _ ly cy
  .rw[AR];refine e _ _ ?_ co;simp only[Ag,EE,or_false]at mx;rcases mx with h|h|h|h<;>rw[h]<;>simp
 unfold ARZ;obtain⟨x,ex,lx,cx⟩:=q;obtain⟨k,ek,_,_,_,ck⟩:=CQ cx 12;have g:∀b,∃y,Awi x k b=some y/\y.1.Data.length<=1000/\CI y.2:=by
  intro b;unfold Awi A3d;rw[BZ];split<;>rw[AR]<;>exact⟨_,rfl,lx,ck⟩
 rw[ex,AB,ek,AB,BZ];split
 .obtain⟨y,ey,cy,_⟩:=HV ck (l:=[-1,w64 ((x.1.Data.length:Int)+1),9223372036854775807,-9223372036854775808]) (by simp);rw[ey,AB,AR];exact⟨_,rfl,lx,cy⟩
 .rw[BZ];split
  .rw[AR];exact g _
  .rw[BZ];split<;>rw[AR]<;>exact g _
def Sml(B:Nat)(s:Bb):Prop:=s.Log.Data.length<=B/\s.Dl.Data.length<=B/\s.Odd.Data.length<=B
theorem Sml.pu3{B:Nat}{s:Bb}(h:Sml B s){a:Bu}(c:a.Data.length<=B)(k:Int):Sml B (jJ s k a):=by
 unfold jJ;split
 .exact⟨h.1,c,h.2.2⟩
 .exact⟨h.1,h.2.1,c⟩
theorem Sml.sl3{B:Nat}{s:Bb}(h:Sml B s)(k:Int):(Gz s k).Data.length<=B:=by
 unfold Gz;split
 .exact h.2.1
 .exact h.2.2
theorem mw{B:Nat}(hB:20000<=B){a:Bu}(h:a.Data.length<=B)(s:List UInt8):(G0 a s).1.Data.length<=B:=by
 grind[G0,List.length_append]
theorem zy{e:Ae}(a:CW e)(p:Int):∃r,ARO e p=some r/\CW r.1/\r.1.Laid=e.Laid/\(Sml 30000 e.BO->Sml 30000 r.1.BO):=by
 obtain⟨r,h,_,c⟩:=z7 a p;refine⟨r,h,c,?_⟩;obtain⟨n,g,y,B⟩:=Ut e.BO;obtain⟨E,j,G,_⟩:=HX e.BO n;have q:=zL a (w64 (1-n));unfold ARO Ata AkG at h;simp only[Mi a,Ga a,Gv,AB,AR,g,Rk,jf,NQ a.EL,Z3 (Au (J3 e.BD e.Seq) (by omega)),aw,j,je a.log,AC8,BZ]at h
 repeat' split at h
 all_goals cases h
 all_goals refine⟨rfl,fun hS=>?_⟩
 all_goals first|exact hS|exact hS.pu3 (by simp) _|exact hS.pu3 (mw (by omega) (hS.sl3 _) _) _|exact hS.pu3 (by rw[Q7];exact hS.sl3 _) _|exact Sml.pu3 (s:=⟨(Zy e.BO.Log _).1,e.BO.Dl,e.BO.Odd⟩) ⟨Au (AC4 _ _) hS.1,hS.2⟩ (hS.sl3 _) _
theorem AUd{e:Ae}(j:CW e)(p:Int):∃r,Ae1 e p=some r/\CW r.1/\r.1.Laid=e.Laid/\(Sml 30000 e.BO->Sml 30000 r.1.BO):=by
 unfold Ae1;rw[Mi j,AB];refine K2 (fun x:Int×Ae=>0<=x.1/\x.1<=4/\CW x.2/\x.2.Laid=e.Laid/\(Sml 30000 e.BO->Sml 30000 x.2.BO)) (fun x=>(4-x.1).toNat) (fun r:Ae×Bool=>CW r.1/\r.1.Laid=e.Laid/\(Sml 30000 e.BO->Sml 30000 r.1.BO)) ?_ big (0,e) ⟨by omega,by omega,j,rfl,id⟩ (JG _ (by simp));rintro L ⟨i,x⟩ ⟨y,B,c,a,hS⟩ q;unfold AkU AmZ;dsimp only at y B c a hS q ⊢;rw[ZT,AB,BA];by_cases g:i<(if p<4 then p else 4)
 .have J:i<4:=by split at g<;>omega
  rw[if_pos g];obtain⟨r,E,G,H,I⟩:=zy c i;rw[E,AB,BI];cases r.2 with
  |false=>exact⟨(x,false),rfl,c,a,hS⟩|true=>
   rw[BH,Ai (by omega) (by omega)];exact q (i+1,r.1) ⟨by omega,by omega,G,H.trans a,fun h=>I (hS h)⟩ (by dsimp only;omega)
 .rw[if_neg g,AR];exact⟨(x,true),rfl,c,a,hS⟩
def Wg(e:Ae):Prop:=CW e/\e.Laid.length<=8/\Sml 30000 e.BO
theorem AeC{e:Ae}(h:Wg e)(q:BX):Wg (JB e q).1:=by
 refine⟨UD h.1 q,?_,?_⟩
 .have:=h.2.1
  grind[JB,Ks,List.length_append,List.length_singleton]
 .have hS:=h.2.2;unfold JB
  repeat' split
  all_goals first|exact hS|exact⟨mw (by omega) hS.1 _,hS.2⟩
theorem AfE{e:Ae}(h:Wg e):Wg (Mc e).1:=by
 refine⟨(AC2 h.1).1,?_⟩;have:=h.2;unfold Mc;split
 .exact this
 .exact⟨by simp,by dsimp only;rw[Q7];exact this.2.1,this.2.2⟩
theorem call8{e:Ae}(h:Wg e)(q:BX):Wg (TX e q).1:=by
 unfold TX;split
 .exact h
 .exact AfE (AeC h q)
theorem AiS{r:AZ}(a:r.AV.length<=1048576):Wg (Ge r).1:=by
 have hT:=J3 (EB r).1 0;refine⟨bW a,?_⟩;unfold Ge;split
 .exact⟨by simp,by simp,by dsimp only;omega,by simp⟩
 .exact⟨by simp[Ij],by simp[Ij],by simp[Ij],by simp[Ij]⟩
theorem AhT{x:Int×AX}(y:0<=x.1)(H:x.1<=1000)(B:CI x.2){e:Ae}(E:Wg e):∃r,A4 (BBD x) big (0,x.2,e)=some r/\Wg r.1/\CI r.2:=by
 obtain⟨n,G⟩:=Ab y;refine Hl (n:=n) (fun i (v:AX×Ae)=>((i:Int),v.1,v.2)) (fun i v=>CI v.1/\Wg v.2) _ (by omega) ?_ (v:=(x.2,e)) ⟨B,E⟩;rintro L i ⟨c,e⟩ ⟨h,a⟩ hi j;unfold BBD BCv;dsimp only at h a j ⊢;rw[G,dec_lt];rcases AT i n with g|g
 .obtain⟨q,eq,cq⟩:=Ael h a.1.EL;rw[decide_eq_true g,BH,eq,AB,Z6 a.1,AB,BU g (by omega)];exact j (_,_) ⟨cq,AeC a _⟩ g
 .rw[decide_eq_false (by omega),BN,AR];exact⟨_,rfl,a,h⟩
theorem AUN{c:AX}(h:CI c):∃r,AJ8 c=some r/\Wg r.1/\CI r.2:=by
 unfold AJ8;obtain⟨x1,X,s1,_,Q⟩:=APp h;obtain⟨x3,Y,a3,_,O,S⟩:=CQ Q 14;rw[X,AB,AL0 (by omega),AB,Y,AB];have hb:=O (by omega);obtain⟨n,Z⟩:=Ab a3;refine Hl (n:=n) (fun i (v:AX×Ae)=>((i:Int),v.1,v.2)) (fun i v=>CI v.1/\Wg v.2) _ (by omega) ?_ (v:=(x3.2,(Ge x1.1).1)) ⟨S,AiS (by omega)⟩;rintro L i ⟨c,e⟩ ⟨B,a⟩ hi G;unfold AkV;dsimp only at B a G ⊢;rw[Z,dec_lt];rcases AT i n with g|g
 .rw[decide_eq_true g,BH];have J:∀c e,CI c->Wg e->∃r,tu L (i:Int) (c,e)=some r/\Wg r.1/\CI r.2:=by
   intro c e h j;unfold tu;dsimp only;rw[BU g (by omega)];exact G (_,_) ⟨h,j⟩ g
  have I:∀c e,CI c->Wg e->∃r,gX L (i:Int) (c,e)=some r/\Wg r.1/\CI r.2:=by
   intro c e h j;unfold gX;dsimp only;obtain⟨y,ey,cy⟩:=Me h 8;rw[ey,AB,BZ];split
   .have E:=AfE j;obtain⟨z,ez,_,_,_,cz⟩:=CQ cy 5;obtain⟨m,em,fm,lm,sm⟩:=AUd E.1 z.1;rw[AC7 j.1,AB,ez,AB,em,AB,AR];exact J _ _ cz ⟨fm,by rw[lm];exact E.2.1,sm E.2.2⟩
   .rw[AR];exact J _ _ cy j
  have H:∀c q,CI c->∃r,Ama L (i:Int) e (c,q)=some r/\Wg r.1/\CI r.2:=by
   intro c q h;unfold Ama;dsimp only;obtain⟨y,ey,cy⟩:=Me h 5;rw[ey,AB,BZ];split
   .rw[Z6 a.1,AB,AR];exact I _ _ cy (AeC a _)
   .rw[AC5 a.1,AB,AR];exact I _ _ cy (call8 a _)
  obtain⟨q,eq,cq⟩:=Ael B a.1.EL;obtain⟨o,eo,co⟩:=Me cq 2;rw[eq,AB,eo,AB,BZ];split
  .obtain⟨l,el,cl⟩:=AhU co a.1.EL;rw[el,AB,AR];exact H _ _ cl
  .rw[AR];exact H _ _ co
 .rw[decide_eq_false (by omega),BN,AR];unfold BCu;dsimp only;obtain⟨y,ey,ay,_,by_,cy⟩:=CQ B 4;rw[ey,AB];exact AhT ay (by have:=by_ (by omega);omega) cy a
theorem Age{c:AX}(h:CI c):∃x,ARb c=some x:=by
 unfold ARb;obtain⟨e,ee,fe,ce⟩:=AUN h;obtain⟨k,ek,_,_,_,ck⟩:=CQ ce 8;have g:∀x,∃r,A8Y x=some r:=fun x=>⟨_,rfl⟩
 rw[ee,AB,ek,AB,BZ];split
 .obtain⟨z,ez,_⟩:=AcY ck (l:=e.1.BO.Dl.Data) fe.1.even;rw[ez,AB,AR];exact g _
 rw[BZ];split
 .rw[AR];exact g _
 rw[BZ];split
 .obtain⟨z,ez,_⟩:=CQ ck (w64 ((e.1.BO.Dl.Data.length:Int)+1));rw[ez,AB,AR];exact g _
 rw[BZ];split
 .unfold ARa;obtain⟨a,ea,_,ca⟩:=AcV ck;obtain⟨b,eb,_,cb⟩:=AcV ca;obtain⟨d,ed,_,cd⟩:=AcV cb;rw[ea,AB,eb,AB,ed,AB,AB,AR];exact g _
 rw[BZ];split<;>rw[AR]<;>exact g _
theorem APn{s:List UInt8}(e:s.length<=1048576):∃x,uF s=some x:=by
 unfold uF;obtain⟨c,ec,a⟩:=Agd e;obtain⟨x,ex⟩:=Age a;rw[ec,AB,ex,AB];exact⟨_,rfl⟩
theorem AGf{s:List UInt8}(_:okL okT s):Lc s=some true:=by
 unfold Lc;rw[yI,AB,BA];split
 .rfl
 obtain⟨x,ex⟩:=APn (s:=s) (by omega);obtain⟨r,h,j,_⟩:=HX x 0;obtain⟨E,q,y,_⟩:=HX x 1;obtain⟨c,a,B,_⟩:=Ut x;rw[ex,AB,B,AB,a,AB,bne_self_eq_false,BN,j,AB,y,AB];unfold nG A3G at a;rw[h,q,AB,AB]at a;unfold EA;cases e:r.2.2<;>cases g:E.2.2<;>simp only[e,g,BH,BN,AR,Bool.not_true,Bool.not_false,BA]at a ⊢
 .cases a;rfl
 .cases a;rfl
 .cases a;rfl
 .split at a<;>cases a<;>simp[BZ]<;>omega
theorem AiU{c:AX}(a:CI c):∃x,ARY c=some x/\x.1.length<=20000/\CI x.2:=by
 unfold ARY;refine K2 (fun v:List UInt8=>1<=v.length/\v.length<=40000) (fun v=>40000-v.length) (fun x:List UInt8×AX=>x.1.length<=20000/\CI x.2) ?_ big [48,49,50,51,52,53,54,55,56,57] (by simp) (JG _ (by simp));rintro L v ⟨g,h⟩ e;unfold AKA;rw[BA];split
 .rw[B9 (by unfold On;omega)];exact e _ ⟨by simp;omega,by simp;omega⟩ (by simp;omega)
 .rw[AR];unfold AJ9;obtain⟨z,ez,cz,mz⟩:=HV a (l:=[19989,19990,20000]) (by simp);have:0<=z.1/\z.1<=20000:=by
   simp only[Ag,EE,or_false]at mz;omega
  rw[ez,AB,B9 (by omega)];exact⟨_,rfl,by simp only[BS];omega,cz⟩
theorem Aem{c:AX}(y:CI c):∃x,tw c=some x/\CW x.1/\x.1.Laid.length<=20/\CI x.2:=by
 unfold tw;obtain⟨e,ee,fe,ce⟩:=AUN y;obtain⟨k,ek,_,_,_,ck⟩:=CQ ce 20;have q:=fe;obtain⟨a,B,_⟩:=fe;rw[ee,AB,ek,AB,BZ];split
 .obtain⟨z,ez,cz,_⟩:=HV ck (l:=[-1,0,999999,1000000,1000001,9223372036854775807]) (by simp);rw[ez,AB,AR];exact⟨_,rfl,⟨a.EL,a.log,a.even,a.odd,a.laid⟩,by dsimp only;omega,cz⟩
 rw[BZ];split
 .obtain⟨z,ez,cz⟩:=AMu ck a.EL;rw[ez,AB,B9 (by simp only[AH,AN];unfold lim;omega),AR];exact⟨_,rfl,⟨a.EL,a.log,a.even,a.odd,by simp;omega⟩,by simp;omega,cz⟩
 rw[BZ];split
 .obtain⟨z,ez,cz,_⟩:=HV ck (l:=[-1,0,30000]) (by simp);rw[ez,AB,AR];exact⟨_,rfl,⟨a.EL,a.log,a.even,a.odd,a.laid⟩,by dsimp only;omega,cz⟩
 rw[BZ];split
 .obtain⟨z,ez,fz,cz⟩:=APo ck;rw[ez,AB,AR];exact⟨_,rfl,⟨fz,a.log,a.even,a.odd,a.laid⟩,by dsimp only;omega,cz⟩
 rw[BZ];split
 .refine Hl (n:=9) (fun i (v:Ae)=>((i:Int),v)) (fun i v=>Wg v) _ (by omega) ?_ (v:=e.1) q;intro L i v h hi j;unfold BCw A3b;dsimp only at h j ⊢;rw[show (9:Int)=((9:Nat):Int) from rfl,dec_lt];rcases AT i 9 with g|g
  .rw[decide_eq_true g,BH,Z6 h.1,AB,BU g (by omega)];exact j _ (AeC h _) g
  .rw[decide_eq_false (by omega),BN,AR];exact⟨_,rfl,h.1,by have:=h.2.1;dsimp only;omega,ck⟩
 rw[BZ];split
 .obtain⟨z,ez,lz,cz⟩:=AiU ck;rw[ez,AB,AR];exact⟨_,rfl,⟨a.EL,by dsimp only;omega,a.even,a.odd,a.laid⟩,by dsimp only;omega,cz⟩
 .rw[AR];exact⟨_,rfl,a,by dsimp only;omega,ck⟩
theorem AXO{s:List UInt8}(e:s.length<=1048576):∃x,WT s=some x/\CW x.1/\x.1.Laid.length<=20:=by
 unfold WT AKD;obtain⟨c,ec,a⟩:=Agd e;obtain⟨x,ex,fx,lx,cx⟩:=Aem a;obtain⟨o,eo,co⟩:=Me cx 6;rw[ec,AB,ex,AB,eo,AB,BZ];split
 .obtain⟨z,ez,_⟩:=AMu co fx.EL;rw[ez,AB,AB];exact⟨_,rfl,fx,lx⟩
 .obtain⟨z,ez,_⟩:=Ael co fx.EL;rw[ez,AB,AB];exact⟨_,rfl,fx,lx⟩
end Lv.P
