/- Plain laws about what the program computes. -/
import Derived.Test.YtnjoipcemhflkaaGreatPQc
import Derived.Test.YtnjoipcemhflkaaGreatPSc
set_option linter.unusedVariables false
set_option linter.unusedSimpArgs false
set_option linter.unusedSectionVars false
open Int renaming eq_ofNat_of_zero_le->AZ
open List renaming length_cons->AI,length_nil->AP,nil_append->Bk
open Nat renaming le_trans->Ar,lt_or_ge->AV
namespace Lv.P
open Lv Go
def Sml(B:Nat)(s:CN):Prop:=s.Log.Data.length<=B/\s.GG.Data.length<=B/\s.Odd.Data.length<=B
theorem Sml.pu3{B:Nat}{s:CN}(h:Sml B s){a:CH}(c:a.Data.length<=B)(k:Int):Sml B (W5 s k a):=by
 unfold W5;split
 .exact⟨h.1,c,h.2.2⟩
 .exact⟨h.1,h.2.1,c⟩
theorem Sml.sl3{B:Nat}{s:CN}(h:Sml B s)(k:Int):(H9 s k).Data.length<=B:=by
 unfold H9;split
 .exact h.2.1
 .exact h.2.2
theorem Y8{B:Nat}(hB:20000<=B){a:CH}(h:a.Data.length<=B)(s:List UInt8):(GP a s).1.Data.length<=B:=by
 grind[GP,List.length_append]
theorem jm{e:Ap}(a:CR e)(p:Int):∃r,lr e p=some r/\CR r.1/\r.1.Laid=e.Laid/\(Sml 30000 e.Bi->Sml 30000 r.1.Bi):=by
 obtain⟨r,h,_,c⟩:=jo a p;refine⟨r,h,c,?_⟩;obtain⟨n,g,y,B⟩:=ax e.Bi;obtain⟨E,j,G,_⟩:=LY e.Bi n;have q:=jK a (w64 (1-n));unfold lr SI Pg at h;simp only[LG a,Lf a,GC,AB,AT,g,S6,XN,Lg a.EN,Sw (Ar (NU e.BU e.Seq) (by omega)),Yx,j,XM a.log,nH,Bb]at h
 repeat' split at h
 all_goals cases h
 all_goals refine⟨rfl,fun hS=>?_⟩
 all_goals first|exact hS|exact hS.pu3 (by simp) _|exact hS.pu3 (Y8 (by omega) (hS.sl3 _) _) _|exact hS.pu3 (by rw[RJ];exact hS.sl3 _) _|exact Sml.pu3 (s:=⟨(Su e.Bi.Log _).1,e.Bi.GG,e.Bi.Odd⟩) ⟨Ar (nE _ _) hS.1,hS.2⟩ (hS.sl3 _) _
theorem AGm{e:Ap}(j:CR e)(p:Int):∃r,AFR e p=some r/\CR r.1/\r.1.Laid=e.Laid/\(Sml 30000 e.Bi->Sml 30000 r.1.Bi):=by
 unfold AFR;rw[LG j,AB];refine Jq (fun x:Int×Ap=>0<=x.1/\x.1<=4/\CR x.2/\x.2.Laid=e.Laid/\(Sml 30000 e.Bi->Sml 30000 x.2.Bi)) (fun x=>(4-x.1).toNat) (fun r:Ap×Bool=>CR r.1/\r.1.Laid=e.Laid/\(Sml 30000 e.Bi->Sml 30000 r.1.Bi)) ?_ big (0,e) ⟨by omega,by omega,j,rfl,id⟩ (IC _ (by simp));rintro L ⟨i,x⟩ ⟨y,B,c,a,hS⟩ q;unfold xz xy;dsimp only at y B c a hS q ⊢;rw[g9,AB,BJ];by_cases g:i<(if p<4 then p else 4)
 .have J:i<4:=by split at g<;>omega
  rw[if_pos g];obtain⟨r,E,G,H,I⟩:=jm c i;rw[E,AB,BN];cases r.2 with
  |false=>exact⟨(x,false),rfl,c,a,hS⟩|true=>
   rw[BP,A4 (by omega) (by omega)];exact q (i+1,r.1) ⟨by omega,by omega,G,H.trans a,fun h=>I (hS h)⟩ (by dsimp only;omega)
 .rw[if_neg g,AT];exact⟨(x,true),rfl,c,a,hS⟩
def Re(e:Ap):Prop:=CR e/\e.Laid.length<=8/\Sml 30000 e.Bi
theorem ARM{e:Ap}(h:Re e)(q:B9):Re (H7 e q).1:=by
 refine⟨Pv h.1 q,?_,?_⟩
 .have:=h.2.1
  grind[H7,Jp,List.length_append,List.length_singleton]
 .have hS:=h.2.2;unfold H7
  repeat' split
  all_goals first|exact hS|exact⟨Y8 (by omega) hS.1 _,hS.2⟩
theorem ASX{e:Ap}(h:Re e):Re (IL e).1:=by
 refine⟨(nC h.1).1,?_⟩;have:=h.2;unfold IL;split
 .exact this
 .exact⟨by simp,by dsimp only;rw[RJ];exact this.2.1,this.2.2⟩
theorem call8{e:Ap}(h:Re e)(q:B9):Re (Lo e q).1:=by
 unfold Lo;split
 .exact h
 .exact ASX (ARM h q)
theorem AVw{r:Aa}(a:r.AW.length<=1048576):Re (LK r).1:=by
 have hT:=NU (Io r).1 0;refine⟨jv a,?_⟩;unfold LK;split
 .exact⟨by simp,by simp,by dsimp only;omega,by simp⟩
 .exact⟨by simp[Hg],by simp[Hg],by simp[Hg],by simp[Hg]⟩
theorem AUn{x:Int×AY}(y:0<=x.1)(H:x.1<=1000)(B:B7 x.2){e:Ap}(E:Re e):∃r,A7 (fv x) big (0,x.2,e)=some r/\Re r.1/\B7 r.2:=by
 obtain⟨n,G⟩:=AZ y;refine JB (n:=n) (fun i (v:AY×Ap)=>((i:Int),v.1,v.2)) (fun i v=>B7 v.1/\Re v.2) _ (by omega) ?_ (v:=(x.2,e)) ⟨B,E⟩;rintro L i ⟨c,e⟩ ⟨h,a⟩ hi j;unfold fv yB;dsimp only at h a j ⊢;rw[G,dec_lt];rcases AV i n with g|g
 .obtain⟨q,eq,cq⟩:=ARv h a.1.EN;rw[decide_eq_true g,BP,eq,AB,XL a.1,AB,BX g (by omega)];exact j (_,_) ⟨cq,ARM a _⟩ g
 .rw[decide_eq_false (by omega),BS,AT];exact⟨_,rfl,a,h⟩
theorem ARx{c:AY}(h:B7 c):∃r,AFS c=some r/\Re r.1/\B7 r.2:=by
 unfold AFS;obtain⟨x1,X,s1,_,Q⟩:=APz h;obtain⟨x3,Y,a3,_,O,S⟩:=CF Q 14;rw[X,AB,y8 (by omega),AB,Y,AB];have hb:=O (by omega);obtain⟨n,Z⟩:=AZ a3;refine JB (n:=n) (fun i (v:AY×Ap)=>((i:Int),v.1,v.2)) (fun i v=>B7 v.1/\Re v.2) _ (by omega) ?_ (v:=(x3.2,(LK x1.1).1)) ⟨S,AVw (by omega)⟩;rintro L i ⟨c,e⟩ ⟨B,a⟩ hi G;unfold yC;dsimp only at B a G ⊢;rw[Z,dec_lt];rcases AV i n with g|g
 .rw[decide_eq_true g,BP];have J:∀c e,B7 c->Re e->∃r,WZ L (i:Int) (c,e)=some r/\Re r.1/\B7 r.2:=by
   intro c e h j;unfold WZ;dsimp only;rw[BX g (by omega)];exact G (_,_) ⟨h,j⟩ g
  have I:∀c e,B7 c->Re e->∃r,WY L (i:Int) (c,e)=some r/\Re r.1/\B7 r.2:=by
   intro c e h j;unfold WY;dsimp only;obtain⟨y,ey,cy⟩:=Mz h 8;rw[ey,AB,Bb];split
   .have E:=ASX j;obtain⟨z,ez,_,_,_,cz⟩:=CF cy 5;obtain⟨m,em,fm,lm,sm⟩:=AGm E.1 z.1;rw[nG j.1,AB,ez,AB,em,AB,AT];exact J _ _ cz ⟨fm,by rw[lm];exact E.2.1,sm E.2.2⟩
   .rw[AT];exact J _ _ cy j
  have H:∀c q,B7 c->∃r,WX L (i:Int) e (c,q)=some r/\Re r.1/\B7 r.2:=by
   intro c q h;unfold WX;dsimp only;obtain⟨y,ey,cy⟩:=Mz h 5;rw[ey,AB,Bb];split
   .rw[XL a.1,AB,AT];exact I _ _ cy (ARM a _)
   .rw[nF a.1,AB,AT];exact I _ _ cy (call8 a _)
  obtain⟨q,eq,cq⟩:=ARv B a.1.EN;obtain⟨o,eo,co⟩:=Mz cq 2;rw[eq,AB,eo,AB,Bb];split
  .obtain⟨l,el,cl⟩:=AUo co a.1.EN;rw[el,AB,AT];exact H _ _ cl
  .rw[AT];exact H _ _ co
 .rw[decide_eq_false (by omega),BS,AT];unfold yA;dsimp only;obtain⟨y,ey,ay,_,by_,cy⟩:=CF B 4;rw[ey,AB];exact AUn ay (by have:=by_ (by omega);omega) cy a
theorem AVz{c:AY}(a:B7 c):∃x,AFT c=some x/\x.1.length<=20000/\B7 x.2:=by
 unfold AFT;refine Jq (fun v:List UInt8=>1<=v.length/\v.length<=40000) (fun v=>40000-v.length) (fun x:List UInt8×AY=>x.1.length<=20000/\B7 x.2) ?_ big [48,49,50,51,52,53,54,55,56,57] (by simp) (IC _ (by simp));rintro L v ⟨g,h⟩ e;unfold yE;rw[BJ];split
 .rw[Bt (by unfold OE;omega)];exact e _ ⟨by simp;omega,by simp;omega⟩ (by simp;omega)
 .rw[AT];unfold yD;obtain⟨z,ez,cz,mz⟩:=Hv a (l:=[19989,19990,20000]) (by simp);have:0<=z.1/\z.1<=20000:=by
   simp only[List.mem_cons,List.not_mem_nil,or_false]at mz;omega
  rw[ez,AB,Bt (by omega)];exact⟨_,rfl,by simp only[List.length_take];omega,cz⟩
theorem ARw{c:AY}(y:B7 c):∃x,AFU c=some x/\CR x.1/\x.1.Laid.length<=20/\B7 x.2:=by
 unfold AFU;obtain⟨e,ee,fe,ce⟩:=ARx y;obtain⟨k,ek,_,_,_,ck⟩:=CF ce 20;have q:=fe;obtain⟨a,B,_⟩:=fe;rw[ee,AB,ek,AB,Bb];split
 .obtain⟨z,ez,cz,_⟩:=Hv ck (l:=[-1,0,999999,1000000,1000001,9223372036854775807]) (by simp);rw[ez,AB,AT];exact⟨_,rfl,⟨a.EN,a.log,a.even,a.odd,a.laid⟩,by dsimp only;omega,cz⟩
 rw[Bb];split
 .obtain⟨z,ez,cz⟩:=AAE ck a.EN;rw[ez,AB,Bt (by simp only[AI,AP];unfold lim;omega),AT];exact⟨_,rfl,⟨a.EN,a.log,a.even,a.odd,by simp;omega⟩,by simp;omega,cz⟩
 rw[Bb];split
 .obtain⟨z,ez,cz,_⟩:=Hv ck (l:=[-1,0,30000]) (by simp);rw[ez,AB,AT];exact⟨_,rfl,⟨a.EN,a.log,a.even,a.odd,a.laid⟩,by dsimp only;omega,cz⟩
 rw[Bb];split
 .obtain⟨z,ez,fz,cz⟩:=AC9 ck;rw[ez,AB,AT];exact⟨_,rfl,⟨fz,a.log,a.even,a.odd,a.laid⟩,by dsimp only;omega,cz⟩
 rw[Bb];split
 .refine JB (n:=9) (fun i (v:Ap)=>((i:Int),v)) (fun i v=>Re v) _ (by omega) ?_ (v:=e.1) q;intro L i v h hi j;unfold yF MA;dsimp only at h j ⊢;rw[show (9:Int)=((9:Nat):Int) from rfl,dec_lt];rcases AV i 9 with g|g
  .rw[decide_eq_true g,BP,XL h.1,AB,BX g (by omega)];exact j _ (ARM h _) g
  .rw[decide_eq_false (by omega),BS,AT];exact⟨_,rfl,h.1,by have:=h.2.1;dsimp only;omega,ck⟩
 rw[Bb];split
 .obtain⟨z,ez,lz,cz⟩:=AVz ck;rw[ez,AB,AT];exact⟨_,rfl,⟨a.EN,by dsimp only;omega,a.even,a.odd,a.laid⟩,by dsimp only;omega,cz⟩
 .rw[AT];exact⟨_,rfl,a,by dsimp only;omega,ck⟩
theorem AJH{s:List UInt8}(e:s.length<=1048576):∃x,AFV s=some x/\CR x.1/\x.1.Laid.length<=20:=by
 unfold AFV AKQ;obtain⟨c,ec,a⟩:=AV0 e;obtain⟨x,ex,fx,lx,cx⟩:=ARw a;obtain⟨o,eo,co⟩:=Mz cx 6;rw[ec,AB,ex,AB,eo,AB,Bb];split
 .obtain⟨z,ez,_⟩:=AAE co fx.EN;rw[ez,AB,AB];exact⟨_,rfl,fx,lx⟩
 .obtain⟨z,ez,_⟩:=ARv co fx.EN;rw[ez,AB,AB];exact⟨_,rfl,fx,lx⟩
theorem m0(r:Ca):ARk r r=true:=by
 unfold ARk;rw[(HI (eq:=(·==·)) (by simp)).2 rfl];simp
theorem AAf{s:List UInt8}(_:okL okT s):La s=some true:=by
 unfold La;rw[ANs,AB,BJ];split
 .rfl
 obtain⟨x,ex,fx,lx⟩:=AJH (s:=s) (by omega);obtain⟨cf,cr⟩:=AGt fx x.2;rw[ex,AB,AHF fx,AB,nF fx,AB,S5 cr,AB,m0,BN,BP,BJ];by_cases e:(H7 x.1 x.2).2=0
 .split
  .rfl
  obtain⟨g,q,O,h,y,B⟩:=mT e;obtain⟨L,S⟩:=Uw fx e;have hfL:=Pv fx x.2;have j:=(Jp g).1;have hcall:Lo x.1 x.2=((IL (H7 x.1 x.2).1).1,(IL (H7 x.1 x.2).1).2.getD (x.1.Laid.length) ⟨0,[]⟩):=by unfold Lo;rw[if_neg (by simp[e])]
  have hseal:IL (H7 x.1 x.2).1=(⟨(HM (x.1.Laid++[x.2]) x.1.BU).1,⟨XT (H7 x.1 x.2).1.Bi.Log,(H7 x.1 x.2).1.Bi.GG,(H7 x.1 x.2).1.Bi.Odd⟩,x.1.Seq+1,[]⟩,(HM (x.1.Laid++[x.2]) x.1.BU).2):=by
   unfold IL;rw[if_neg (by simp[g]),y,h,B]
  rw[h]at j;have hR:=(yO (x.1.Laid++[x.2]) (Hz.1 j)).1;have hH:=(TV (x.1.Laid++[x.2]) fx.EN).1;have hD:Ia x.1.BU ([]++x.1.Laid++[x.2])=some (HM (x.1.Laid++[x.2]) x.1.BU):=by
   rw[Bk];exact jL fx.EN (by simp;omega)
  have I:0+x.1.Laid.length<=lim:=by unfold lim;omega
  have J:([]++x.1.Laid).length+[x.2].length<=lim:=by simp only[Bk,AI,AP];unfold lim;omega
  have G:(HM (x.1.Laid++[x.2]) x.1.BU).2=(IL (H7 x.1 x.2).1).2:=by rw[hseal]
  have E:KI (H7 x.1 x.2).1.Bi.Log=true:=by
   have:=(Jp g).2.1
   grind[S8]
  have H:vJ (Lo x.1 x.2).1=some 0:=by
   rw[yv cf,hcall,hseal];unfold tU XT;rw[if_pos E];split
   .simp;rfl
   .simp
  have Q:=(Jp q).2.2.2.1;have c:(Lo x.1 x.2).1.Seq=w64 (x.1.Seq+1):=by
   have:=(Jp g).2.2.2.1;rw[hcall,hseal,A4 (by omega) (by omega)]
  have hlaid:(Lo x.1 x.2).1.Laid=[]:=by rw[hcall,hseal]
  have hhouse:(Lo x.1 x.2).1.BU=(HM (x.1.Laid++[x.2]) x.1.BU).1:=by rw[hcall,hseal]
  have a:(Lo x.1 x.2).2=(IL (H7 x.1 x.2).1).2.getD (x.1.Laid.length) ⟨0,[]⟩:=by rw[hcall]
  simp only[hD,Bt I,Bt J,AB,CQ,I2,G,L,hhouse,H,c,hlaid];rw[<-a,S5 cr,AB,m0,BP,ACz hH (Hz.2 hR),AB,BP];simp[Bb,AT,Fh]
 .rw[if_pos];unfold Lo;rw[if_pos e];unfold H7 at e ⊢
  grind
end Lv.P
