/- Plain laws about what the program computes. -/
import Derived.Test.YtcmjfplpdjflnaaGreatPMb
set_option linter.unusedVariables false
set_option linter.unusedSimpArgs false
set_option linter.unusedSectionVars false
open Bool renaming false_eq_true->BM,true_eq_false->DZ
open Int renaming eq_ofNat_of_zero_le->As,toNat_natCast->Ad
open List renaming all_eq_true->DB,getD_eq_getElem?_getD->BO,getElem?_eq_getElem->AT,getElem_mem->Au,length_append->AP,length_cons->AI,length_nil->AR,set_set->C4
open Nat renaming le_trans->Aw,lt_or_ge->AZ
namespace Lv.P
open Lv Go
theorem AFx{q:Bp}(h:KN q=true):(q.Kind=1->0<=q.AY /\ -1<=q.Bi)/\(q.Kind=3->0<=q.AY)/\(q.Kind=7->0<=q.Id):=by
 grind[KN,Ql,CQ]
theorem AEl{h:AE}(hR:RH h){q:Bp}(B:0<=q.AY)(E:-1<=q.Bi) :
 (bd (Ly q.AY (↑h.AH.length:Int)) fun y=>
  br (!y)
   (jn (LN h q) true)
   (bd (C3 q.Bi (-1) (w64 ((↑h.AH.length:Int)-1))) fun a=>
   br (!a)
    (jn (LN h q) true)
    (jn (LN h q) (q.Bi==q.AY))))=some (WE h q):=by
 have e:=hR.fit;have g:=hR.len;have I:=e.CP;have ew:w64 ((h.AH.length:Int)-1)=(h.AH.length:Int)-1:=Ah (by omega) (by omega);have G:∀b,(q.Bi<h.AH.length\/b=true)->LN h q b=some (if b=true then 4
  else if inB q.BA 1 h.AQ.BA=false then 5
  else if h.AQ.Cb<=q.Co then 6
  else if inB q.Id 1 999=false then 7
  else if 0<=F4 h q.Id then 8
  else if h.AQ.Room<=DF h.AG q.AY then 9
  else if 0<=q.Bi/\JW h q.Bi<q.BA then 10
  else if 1000000<h.Az then 11 else 0):=by
  intro b j;unfold LN fO IV;cases b with
  |true=>rfl|false=>
   have hF:q.Bi<h.AH.length:=by simpa using j
   have H:0<=q.Bi->ml h q.Bi=some (JW h q.Bi):=fun c=>iZ c hF
   simp only[BL,FD,AB,BB,B7,BM,if_false,ge_iff_le,gt_iff_lt,decide_eq_true_eq,Gj e,P2 (show h.AG.length<2 ^ 58 by omega),AV,bne_iff_ne,ne_eq];by_cases c:0<=q.Bi
   .grind[AB]
   .grind
 grind[WD,AB,FD,B7,AV,WE,CQ]
theorem ZP{h:AE}(j:B0 h)(id:Int) :
 (bd (L0 h id) fun a=>
 br (decide (a<0))
  (some 7)
  (bd (at? h.AG a) fun c=>
  br (c.State != 2)
   (some 13)
   (bd (at? h.AG a) fun e=>
   bd (zx e h.Now) fun g=>
   br g
    (some 14)
    (jn IV ()))))=some (Jw h id):=by
 unfold Jw;rw[Gj j,AB,BQ]
 grind[XA,QI,AB,ASV,B7,IV,AV]
theorem Gl{h:AE}(G:B0 h)(q:Bp):RF h q=some (verdict h q):=by
 unfold RF verdict;rw[Gi G,AB,BB,B7];by_cases g:D8 h=true
 .have hR:=Ji.1 g;have X:=hR.len;have Y:=hR.now;have ew:w64 ((h.AH.length:Int)-1)=(h.AH.length:Int)-1:=Ah (by omega) (by omega);rw[AX g,AX g];unfold HT;rw[FD,AB,BB,B7];cases inB q.Kind 1 7
  .rfl
  .simp only[if_true,DZ,if_false];rw[iY,AB,BB,B7];cases ha:KN q
   .rfl
   .obtain⟨l1,l3,l7⟩:=AFx ha;have j:IV ()=some 0:=rfl;simp only[if_true,DZ,if_false];by_cases a:q.Kind=1
    .rw[AX a,B7,AX (by simpa using a)];exact AEl hR (l1 a).1 (l1 a).2
    rw[AU a,B7,AU (by simpa using a)];by_cases H:q.Kind=2
    .rw[AX H,B7,AX (by simpa using H),Gj G,AB,BQ,AV,j];split<;>rfl
    rw[AU H,B7,AU (by simpa using H)];by_cases y:q.Kind=3
    .have hc:=l3 y;rw[AX y,B7,AX (by simpa using y),WD,AB,ew,FD,AB,BB,BB,B7,B7,AV,j];by_cases Q:(h.AH.length:Int)<=q.AY
     .rw[AU (by rw[CQ];omega),AX Q]
     .rw[AX (by rw[CQ];omega),AU Q,iZ hc (by omega),AB,BQ];cases inB q.BA 1 60<;>simp<;>split<;>rfl
    rw[AU y,B7,AU (by simpa using y)];unfold fP;by_cases Z:q.Kind=4\/q.Kind=5
    .rw[AX Z];have:(q.Kind==4)=true\/(q.Kind==4)=false/\(q.Kind==5)=true:=by grind
     rcases this with e|⟨e,J⟩
     .rw[e,BK,AV,BK];exact ZP G q.Id
     .rw[e,J,BL,AV,BK];exact ZP G q.Id
    .have e4:(q.Kind==4)=false:=by grind
     have J:(q.Kind==5)=false:=by grind
     rw[AU Z,e4,J,BL,AV,BL,B7];by_cases I:q.Kind=6
     .rw[AX (by simpa using I),AX I,B7,AV,j];by_cases c:1000000<=h.Now
      .rw[AX (by simp;omega),AX c]
      .rw[AU (by simp;omega),AU c]
     .rw[AU (by simpa using I),AU I,B7];by_cases B:q.Kind=7
      .rw[AX (by simpa using B),AX B,BQ];by_cases E:h.AQ.Cx<=q.Id
       .rw[AX E,AX E]
       .rw[AU E,AU E];obtain⟨n,hn⟩:=As (l7 B);have O:n<h.BC.length:=by have:=hR.Rq;omega
        have L:=DB.1 hR.GM _ (Au O);rw[CQ]at L;rw[hn,BJ O,AB,Ad,BO,AT O,Option.getD_some];unfold fQ;simp only[B7,AV,beq_iff_eq,j];by_cases S:h.BC[n] = -1
        .have:h.BC[n]<0:=by omega
         by_cases h3:h.BF.length=0<;>simp[S,h3,this]
        .have:¬h.BC[n]<0:=by omega
         simp[S,this]
      .rw[AU (by simpa using B),AU B,AV,j]
 .rw[AU g,AU g]
theorem Ua{α:Type}{l:List α}{k:Int}(a:0<=k)(c:k<l.length)(v:α):at? (l.set k.toNat v) k=some v:=by
 grind[BJ]
theorem RH.AWu{h:AE}(hR:RH h){k:Int}(c:0<=k)(e:k<h.AH.length):KF (cbn h k).Row=true/\(cbn h k).Row.length<=10:=by
 obtain⟨n,rfl⟩:=As c;have a:=hR.cb (i:=n) (by omega);have q:=CM hR.rules;have j:=a.room;have g:=QK h.AQ h.AG n h.Now;rw[a.row];exact⟨ABz hR.KC (by omega),by omega⟩
theorem RH.AKK{h:AE}(hR:RH h){k:Int}(a:0<=k)(c:k<h.AH.length):FJ (cbn h k):=hR.fit.D1 _ (Tg a c)
theorem AFR{h:AE}(hR:RH h){id:Int}(c:0<=F4 h id)(q:(par h id).State=2):QG ⟨(par h id).Cq,id⟩=true/\(par h id).Id=id:=by
 have a:=hR.one c;have e:=E6 a.okp;have j:=CM hR.rules;have g:=a.pid
 grind[QG,CQ]
theorem AKt{h:AE}(c:B0 h)(id cabin frm size tier:Int):AID h id cabin frm size tier=some (ig h id cabin frm size tier):=by
 unfold AID fY ig;rw[GX c,AB,Gl c,AB];simp only[B7,bne_iff_ne,ne_eq];by_cases a:verdict h ⟨1,id,cabin,frm,size,tier⟩=0
 .rw[AU (not_not_intro a),AU (not_not_intro a)];obtain⟨hJ,_,_,_⟩:=AK5 a;have hR:=Gy a;have g:=(AFx (PS a).2).1 rfl;dsimp only at g;obtain⟨H,q,y,G⟩:=Wy a;have I:=c.Dw;have j:=hR.AWu q y;have ec:at? h.AH cabin=some (cbn h cabin):=FG q y;have hJl:(Lg h id cabin frm size tier).AH.length=h.AH.length:=by unfold Lg;dsimp only;split<;>simp[El,JY,GR,Cu]
  have hJr:=hJ.AWu (k:=cabin) q (by rw[hJl];exact y);have e:(cbn (Lg h id cabin frm size tier) cabin).Row=put ltE (EX h.AQ (HU h id cabin frm size tier) h.Now).1 (cbn h cabin).Row:=by
   grind[Lg,ANc,cbn,GR,HU,JY,Cu]
  rw[e]at hJr;rw[N7 c.CP,AB,MO (by omega),AB];simp only[ec,AB];have E:=TK (l:=(cbn h cabin).Row) (by omega) (EX h.AQ (HU h id cabin frm size tier) h.Now).1;rw[AX ⟨j.1,hJr.1⟩]at E;show bd (mr (cbn h cabin).Row (EX h.AQ (HU h id cabin frm size tier) h.Now).1) _=_;rw[E,AB];unfold Lg;dsimp only;by_cases B:0<=frm
  .have hX:at? (h.AH.set cabin.toNat ⟨(cbn h cabin).AW,put ltE (EX h.AQ (HU h id cabin frm size tier) h.Now).1 (cbn h cabin).Row,(cbn h cabin).Bq⟩) frm=some (cbn (GR ⟨h.AQ,h.Now,w64 (h.Az+1),KO h.AG (HU h id cabin frm size tier),h.AH,h.BF,h.BC⟩ (HU h id cabin frm size tier)) frm):=
    FG (h:=GR ⟨h.AQ,h.Now,w64 (h.Az+1),KO h.AG (HU h id cabin frm size tier),h.AH,h.BF,h.BC⟩ (HU h id cabin frm size tier)) B (by simp only[GR,Cu,List.length_set];exact G)
   rw[AX (by omega),AX B,hX];simp only[AB,ko,AV,Hj c.todo];rfl
  .rw[AU (by omega),AU B];simp only[AB,AV,Hj c.todo];rfl
 .rw[AX a,AX a]
theorem AJJ{g:AE}{p:AN}{id:Int}(c:p.Id=id)(e:-1<=p.Bi)(h:p.Bi<g.AH.length)(j:g.AG.length<=1048576) :
 (if p.Bi = -1 then some (NS g (g.AG.eraseP fun x=>x.Id==id)) else some (NS (Cu g p.Bi ⟨(l8 (cbn g p.Bi).AW p.BA 0 0 0 (-1)).1,(cbn g p.Bi).Row,(cbn g p.Bi).Bq⟩) (g.AG.eraseP fun x=>x.Id==id)))=some (gone g p):=by
 unfold gone;rw[c];dsimp only;by_cases a:0<=p.Bi
 .rw[AU (by omega),AX a];rfl
 .rw[AX (by omega),AU a];rfl
theorem ABH{h:AE}(e:B0 h)(id:Int):AIF h id=some (Pf h id):=by
 unfold AIF Pf;rw[GX e,AB,Gl e,AB];simp only[B7,bne_iff_ne,ne_eq];by_cases E:verdict h ⟨2,id,0,0,0,0⟩=0
 .rw[AU (not_not_intro E),AU (not_not_intro E)];obtain⟨Q,p0⟩:=SE E;have hR:=Ji.1 Q;have I:=hR.one p0;have c:=I.size;have J:=hR.len;have X:=E6 I.okp;have H:=I.pid;have y:∀g:AE,g.AH.length=h.AH.length->g.AG=h.AG->Vg id (par h id) g=some (gone g (par h id),0):=by
   intro g S q;have a:=AJJ (g:=g) (p:=par h id) H (by omega) (by omega) (by rw[q];exact e.CP);unfold Vg fh;have B:Vf g.AG id=some (g.AG.eraseP fun x=>x.Id==id):=N6 (by rw[q];exact e.CP) id;simp only[B7,bne_iff_ne,ne_eq,AV];by_cases G:(par h id).Bi = -1
   .rw[AU (not_not_intro G),B,AB];rw[AX G]at a;rw[<-Option.some.inj a];rfl
   .have ef:at? g.AH (par h id).Bi=some (cbn g (par h id).Bi):=FG (by omega) (by omega);rw[AX G];simp only[ef,AB,Lf,B];rw[AU G]at a;rw[<-Option.some.inj a];rfl
  have ec:at? h.AH (par h id).AY=some (cbn h (par h id).AY):=FG c.2.1.1 (by omega);have j:=hR.AKK c.2.1.1 (by omega);simp only[Gj e,AB,Pd p0,Fq,ec,beq_iff_eq,AV];unfold cancelled;dsimp only;by_cases s1:(par h id).State=1
  .rw[AX s1,AU (by omega),TJ j.1,AB];exact y (kM h (par h id).AY id) (by simp[kM,Cu]) rfl
  .have O:(par h id).State=2:=by omega
   have L:=AFR hR p0 O;rw[AU s1,AX O,N9 j.2 L.1,AB];simp only[Ua c.2.1.1 (show (par h id).AY<(h.AH.length:Int) by omega),AB,Re,Hj e.todo,C4];have:=y (El (dropped h (par h id)) (Qp (dropped h (par h id)).BF (par h id).AY)) (by simp[El,dropped,Cu]) rfl;rw[<-this];unfold dropped;rw[L.2];rfl
 .rw[AX E,AX E]
theorem iT{h:AE}(c:B0 h)(k n:Int):AIH h k n=some (hH h k n):=by
 unfold AIH hH;rw[GX c,AB,Gl c,AB];simp only[B7,bne_iff_ne,ne_eq];by_cases a:verdict h ⟨3,0,k,0,n,0⟩=0
 .rw[AU (not_not_intro a),AU (not_not_intro a)];obtain⟨j,e,g⟩:=Wx a;have ec:at? h.AH k=some (cbn h k):=FG e g;simp only[ec,AB,Rf,Hj c.todo];rfl
 .rw[AX a,AX a]
theorem ANb{X:AE}{p:AN}(a:0<=p.Bi)(c:p.Bi<X.AH.length):cbn (gone X p) p.Bi=⟨(l8 (cbn X p.Bi).AW p.BA 0 0 0 (-1)).1,(cbn X p.Bi).Row,(cbn X p.Bi).Bq⟩:=by
 grind[gone,Jz]
theorem ABF{h:AE}(g:B0 h)(id:Int):AH4 h id=some (PY h id):=by
 unfold AH4 PY fH;rw[GX g,AB,Gl g,AB];simp only[B7,bne_iff_ne,ne_eq];by_cases e:verdict h ⟨4,id,0,0,0,0⟩=0
 .rw[AU (not_not_intro e),AU (not_not_intro e)];obtain⟨G,p0⟩:=SD e;have hR:=Ji.1 G;have H:=hR.one p0;have c:=H.size;have B:=hR.len;have E:=(lL ((OJ e).2.2.2.1 (.inl rfl))).2;dsimp only at E;have j:=AFR hR p0 E;have ec:at? h.AH (par h id).AY=some (cbn h (par h id).AY):=FG c.2.1.1 (by omega);have q:=hR.AKK c.2.1.1 (by omega);have y:Vf h.AG id=some (h.AG.eraseP fun x=>x.Id==id):=N6 g.CP id;simp only[Gj g,AB,Pd p0,Fq,ec,iX,Ua c.2.1.1 (show (par h id).AY<(h.AH.length:Int) by omega),N9 q.2 j.1,y,C4,AV];have hXl:(Wk h (par h id)).AH.length=h.AH.length:=by simp[Wk,Cu]
  have hX:(Wk h (par h id)).AH=h.AH.set (par h id).AY.toNat ⟨(l8 (cbn h (par h id).AY).AW (par h id).BA 0 (-1) 1 0).1,(cbn h (par h id).AY).Row,(S6 (cbn h (par h id).AY).Bq ⟨(par h id).Cq,id⟩).1⟩:=by unfold Wk Cu;rw[j.2]
  rw[<-hX];unfold accepted;dsimp only;by_cases a:0<=(par h id).Bi
  .have ef:at? (Wk h (par h id)).AH (par h id).Bi=some (cbn (Wk h (par h id)) (par h id).Bi):=FG a (by omega);rw[AX (by omega),AX a,ef];simp only[AB,Lf,Ua a (show (par h id).Bi<((Wk h (par h id)).AH.length:Int) by omega),Rf,Hj g.todo,C4];unfold TH;rw[ANb a (by omega)];unfold gone Cu;simp only[AX a,C4,j.2];rfl
  .rw[AU (by omega),AU a];unfold gone;simp only[AU a,j.2];rfl
 .rw[AX e,AX e]
theorem TN{h:AE}(hR:RH h){id:Int}(p0:0<=F4 h id)(Z:(par h id).State=2):zt h id=some (IA h (par h id)):=by
 have y:=hR.fit;have X:=hR.one p0;have E:=X.size;have S:=hR.len;have hs:=y.Dw;have H:=AFR hR p0 Z;have c:=E.2.1.1;have a:(par h id).AY<(h.AH.length:Int):=by omega
 have ec:at? h.AH (par h id).AY=some (cbn h (par h id).AY):=FG c a;have J:=hR.AKK c a;have O:Vf h.AG id=some (h.AG.eraseP fun x=>x.Id==id):=N6 y.CP id;unfold zt fI;simp only[Gj y,AB,Pd p0,Fq,ec,Re,Ua c a,N9 J.2 H.1,ABN (show h.AQ.AW.length<2 ^ 62 by omega),C4,B7,AV,O];have hXl:(dropped h (par h id)).AH.length=h.AH.length:=by simp[dropped,Cu]
 have hX:(dropped h (par h id)).AH=h.AH.set (par h id).AY.toNat ⟨(l8 (cbn h (par h id).AY).AW (par h id).BA 1 (-1) 0 0).1,(cbn h (par h id).AY).Row,(S6 (cbn h (par h id).AY).Bq ⟨(par h id).Cq,id⟩).1⟩:=by unfold dropped Cu;rw[H.2]
 have hF:=gv hR X Z;by_cases q:(EH h.AQ (par h id) h.Now).2=true
 .have j:=ZF q;have e:IA h (par h id)=GR (NS (dropped h (par h id)) (KO h.AG (EH h.AQ (par h id) h.Now).1)) (EH h.AQ (par h id) h.Now).1:=by unfold IA;rw[AX q]
  have hrowX:cbn (dropped h (par h id)) (par h id).AY=⟨(l8 (cbn h (par h id).AY).AW (par h id).BA 1 (-1) 0 0).1,(cbn h (par h id).AY).Row,(S6 (cbn h (par h id).AY).Bq ⟨(par h id).Cq,id⟩).1⟩:=by
   unfold dropped;rw[Jz c a c,AX rfl,H.2]
  have Q:=hR.AWu c a;have B:=hF.AWu c (by rw[(gw h _).EU];exact a);have e2:(cbn (IA h (par h id)) (par h id).AY).Row=put ltE (EX h.AQ (EH h.AQ (par h id) h.Now).1 h.Now).1 (cbn h (par h id).AY).Row:=by
   rw[e];unfold GR;rw[j,Jz c (by show (par h id).AY<((dropped h (par h id)).AH.length:Int);omega) c,AX rfl];show put ltE _ (cbn (dropped h (par h id)) (par h id).AY).Row=_;rw[hrowX];rfl
  rw[e2]at B;have Y:=TK (l:=(cbn h (par h id).AY).Row) (by omega) (EX h.AQ (EH h.AQ (par h id) h.Now).1 h.Now).1;rw[AX ⟨Q.1,B.1⟩]at Y;simp only[q,if_true,N7 y.CP,AB,MO (show h.AQ.AW.length<2 ^ 62 by omega),Y];rw[e];unfold GR;rw[j]
  grind[Cu,NS,dropped,par,cbn,put,ltE,List.set_set]
 .have I:(EH h.AQ (par h id) h.Now).2=false:=by simpa using q
  have e:IA h (par h id)=gone (dropped h (par h id)) (par h id):=by unfold IA;rw[AU q]
  have L:=AJJ (g:=dropped h (par h id)) (p:=par h id) H.2 E.2.2.1.1 (by omega) y.CP;rw[e,<-L];simp only[I,BM,if_false,<-hX,bne_iff_ne,ne_eq];by_cases G:(par h id).Bi = -1
  .rw[AU (not_not_intro G),AX G];rfl
  .have ef:at? (dropped h (par h id)).AH (par h id).Bi=some (cbn (dropped h (par h id)) (par h id).Bi):=FG (by omega) (by omega);rw[AX G,AU G,ef];simp only[AB,Lf];rfl
theorem sQ{h:AE}(c:B0 h)(id:Int):AH6 h id=some (M1 h id):=by
 unfold AH6 M1;rw[GX c,AB,Gl c,AB];simp only[B7,bne_iff_ne,ne_eq];by_cases a:verdict h ⟨5,id,0,0,0,0⟩=0
 .rw[AU (not_not_intro a),AU (not_not_intro a)];obtain⟨g,p0⟩:=Qg a;have hR:=Ji.1 g;have e:=(lL ((OJ a).2.2.2.1 (.inr rfl))).2;dsimp only at e;have hF:=gv hR (hR.one p0) e;simp only[Gj c,AB,Pd p0,TN hR p0 e,Hj hF.fit.todo];rfl
 .rw[AX a,AX a]
theorem AM7{n:Nat}{h x:AE}(H:Sm n h)(J:x.AH.length=h.AH.length)(q:∀c:Int,DF h.AG c<=19)(Q:n+h.AH.length<=1048576):A3 (Vc x) big (0,h)=some (Ns h.AH.length 0 h,0):=by
 generalize a:h.AH.length=len at *;refine(C1 (F:=Vc x) (n:=len) (fun i (v:AE)=>((i:Int),v)) (fun i v=>Sm (n+i) v/\v.AH.length=len/\v.AG=h.AG) (fun i v=>some (Ns (len-i) i v,0)) (by omega) ?_ (v:=h) ⟨H,a,rfl⟩).trans (by rw[Nat.sub_zero]);intro L i v ⟨G,E,g⟩ hi O;have y:=G.fit (by omega);unfold Vc;dsimp only;rw[J];rcases AZ i len with j|j
 .have S:=y.Dw;have I:=y.CP;rw[B4 j,BK,P4 (by omega) I (by rw[g];exact q _),AB,FG (by omega) (by omega),AB,AB,P2 (by omega),AB];have e:Ns (len-i) i v=Ns (len-(i+1)) (i+1) (PQ v i):=by rw[show len-i=(len-(i+1))+1 by omega];rfl
  rw[e];have B:=O (PQ v i) ⟨by have:=kJ G i;rw[Nat.add_assoc]at this;exact this,by rw[oS];exact E,by rw[AU0.KC];exact g⟩ j;rw[<-B];unfold fJ PQ;simp only[BQ,gt_iff_lt,AV,Bt j (show len<2 ^ 63 by omega),Ad,Hj y.todo,AB];split<;>rfl
 .have:i=len:=by omega
  subst this;rw[C0,BL,AV,Nat.sub_self];rfl
theorem AKz{h:AE}(g:B0 h):AH7 h=some (kK h):=by
 unfold AH7 kK;rw[GX g,AB,Gl g,AB];simp only[B7,bne_iff_ne,ne_eq];by_cases e:verdict h ⟨6,0,0,0,0,0⟩=0
 .have hR:=Gy e;have a:=hR.sm;have j:=hR.len;have y:=CM hR.rules;have q:Sm 1000 ⟨h.AQ,w64 (h.Now+1),h.Az,h.AG,h.AH,h.BF,h.BC⟩:=⟨a.Dw,a.CP,a.EU,a.D1,a.todo,a.GM⟩;rw[AU (not_not_intro e),AU (not_not_intro e)];exact AM7 (x:=h) q rfl (fun c=>by have:=hR.cnt c;show DF h.AG c<=19;omega) (by show 1000+h.AH.length<=1048576;omega)
 .rw[AX e,AX e]
theorem sW{w:A0}(a:DW w)(now:Int):AH8 w now=some ((FP w).filter fun p=>decide (p.At<=now)):=by
 have hlim:lim=268435456:=rfl;have c:=Kz a;unfold AH8;rw[ZM a,AB,collect (l:=FP w) (fun p=>if p.At<=now then some p else none) some c ?_ ?_]
 .congr 1;generalize FP w=l
  induction l<;>grind
 .grind[fM,fL,BJ,AB,BQ,AV,B8]
 grind[fM,zw,BL,AV]
theorem TO{h:AE}(hR:RH h){k:Nat}(c:k<h.AH.length):zu h k=some true:=by
 have a:=hR.len;unfold zu fK;rw[Gi hR.fit,Ji.2 hR,AB,BK,WD,AB,AV,Ah (by omega) (by omega),CQ.2 (by omega)]
theorem AEh{h:AE}(hR:RH h){k:Nat}(c:k<h.AH.length):AIN h k=some (gm (cbn h k).Bq h.Now):=by
 have hlim:lim=268435456:=rfl;have a:=(hR.AKK (k:=(k:Int)) (by omega) (by omega)).2;have e:=Kz a;unfold AIN;rw[TO hR c,AB,BB,BK,show at? h.AH (k:Int)=some (cbn h k) from FG (by omega) (by omega),AB,sW a,AB];generalize hD:(FP (cbn h k).Bq).filter (fun p=>decide (p.At<=h.Now))=D;have hDl:D.length<=1048576:=by rw[<-hD];exact Aw (List.length_filter_le _ _) e
 rw[collect (l:=D) (fun p=>some p.Id) some hDl ?_ ?_]
 .unfold gm;rw[<-hD];congr 1;generalize FP (cbn h k).Bq=l
  induction l<;>grind
 .grind[gB,BK,BJ,AB,B8]
 grind[gB,AAJ,BL,AV]
theorem ABM{h:AE}(hR:RH h){k:Nat}(g:k<h.AH.length):AIO h k=some (Vw h k):=by
 obtain⟨hO,E⟩:=RN hR g;unfold AIO Vw;rw[GX hR.fit,AB,AEh hR g,AB];generalize gm (cbn h k).Bq h.Now=D at *;refine(C1 (F:=gC D) (n:=D.length) (fun i (v:AE)=>((i:Int),v)) (fun i v=>RH v/\AKE v (D.drop i)) (fun i v=>some (SY (D.drop i) v)) (by omega) ?_ (v:=h) ⟨hR,hO⟩);rintro L i v ⟨j,c⟩ hi y;unfold gC AAK;dsimp only;rcases AZ i D.length with a|q
 .rw[DR a]at c ⊢;have e:=c.2 D[i] (List.mem_cons_self ..);obtain⟨s1,B,_⟩:=Tp j c;simp only[B4 a,BK,BJ a,AB,TN j e.1 e.2,Bt a (show D.length<2 ^ 63 by omega)];exact y _ ⟨s1,B⟩ a
 .obtain rfl:i=D.length:=by omega
  rw[C0,BL,AV,List.drop_length];rfl
theorem sZ(p:AN)(now:Int):AIP p now=some (ZY p now):=by
 unfold AIP gD ZY;rw[AV,AV,Cp]
theorem kj{l:List Af}(a:l.length<=1048576){skip:List Int}(c:skip.length<=1048576)(free:Int):AIQ l free skip=some (atF (AA2 free skip) l 0):=by
 unfold AIQ AOH;rw[Pc (l:=l) (p:=AA2 free skip) (by omega) ?_ ?_,AB]
 .intro L i h;unfold gG AOG gF AA2
  grind[BK,BJ,AB,N5,AV,Cp]
 grind[gG,AAL,BL,AV]
theorem iU{h:AE}(hR:RH h){k:Nat}(e:k<h.AH.length):AIR h k=some (EV h k):=by
 have hlim:lim=268435456:=rfl;have c:=hR.fit;have a:=c.CP;have j:(jt h).length<=1048576:=Aw (List.length_filterMap_le _ _) a;have g:=(hR.AKK (k:=(k:Int)) (by omega) (by omega)).1;unfold AIR;rw[TO hR e,AB,BB,BK,collect (l:=h.AG) (fun p=>if ZY p h.Now=true then some p.Id else none) (gJ h k) a ?_ ?_]
 .grind[gJ,at?,cbn,AB,jt,kj,TQ,EV,BQ,pC]
 .grind[gK,gH,BJ,AB,sZ,B7,AV,B8]
 grind[gK,BL,AV]
theorem AEi{h:AE}(hR:RH h){k:Nat}(g:k<h.AH.length):AIT h k=some (if EV h k=0 then (h,0) else (IE h k (EV h k),EV h k)):=by
 have a:=hR.fit;unfold AIT;rw[GX a,AB,iU hR g,AB,B7];by_cases c:EV h k=0
 .grind
 .obtain⟨j,q,y,B,E⟩:=jE hR g c;have e:=hR.AKK (k:=(k:Int)) (by omega) (by omega);have ec:at? h.AH (k:Int)=some (cbn h k):=FG (by omega) (by omega);rw[AU (by simpa using c),AU c];simp only[Gj a,AB,Pd j,Fq,ec,iW,Ua (show 0<=(k:Int) by omega) (show (k:Int)<(h.AH.length:Int) by omega),TJ e.1,N7 a.CP,C4,TM e.2];rfl
theorem AMm{h:AE}(hR:RH h){k:Nat}(y:k<h.AH.length):A3 (Vj k) big ([],h)=some (NM k 10 h []):=by
 have hlim:lim=268435456:=rfl;refine YS (F:=Vj k) (fun x=>some (NM k (10-x.1.length) x.2 x.1)) (fun x=>RH x.2/\k<x.2.AH.length/\x.1.length+(cbn x.2 k).Row.length<=10) (fun x=>(cbn x.2 k).Row.length) ?_ (x:=([],h)) ⟨hR,y,by have:=aZ hR y;simpa using this⟩ (by have:=aZ hR y;show (cbn h k).Row.length<_;omega);rintro L ⟨a,g⟩ ⟨q,c,e⟩ E;dsimp only at q c e E ⊢;unfold Vj;dsimp only;rw[AEi q c,AB];by_cases j:EV g k=0
 .grind[AJw,BK]
 .obtain⟨s1,H⟩:=T8 q c j;have B:=ABh j;rw[AU j];dsimp only;have G:(EV g k==0)=false:=by simpa using j
  rw[G,BL,B8 (by simp only[AI,AR];omega),E (a++[EV g k],IE g k (EV g k)) ⟨s1,by rw[(QD g k _).EU];exact c,by simp only[AP,AI,AR];omega⟩ (by dsimp only;omega)];congr 1;rw[show 10-a.length=(10-(a++[EV g k]).length)+1 by simp only[AP,AI,AR];omega]
  conv=>rhs;unfold NM
  rw[AU j]
theorem AKw{h:AE}(hR:RH h){k:Nat}(a:k<h.AH.length):AIU h k=some (JQ h k):=by
 obtain⟨c,e⟩:=Pn hR (RN hR a).1;unfold AIU;rw[ABM hR a,AB];exact AMm c (by rw[e.EU];exact a)
theorem AKv{h:AE}(q:B0 h)(who:Int):AIV h who=some (WR h who):=by
 unfold AIV WR;rw[GX q,AB,Gl q,AB];simp only[B7,bne_iff_ne,ne_eq,beq_iff_eq];by_cases a:verdict h ⟨7,who,0,0,0,0⟩=0
 .rw[AU (not_not_intro a),AU (not_not_intro a)];have hR:=Gy a;have G:=hR.len;obtain⟨n,c,e,L⟩:=Wz rfl a;dsimp only at e;subst e;have eg:h.BC.getD n 0=h.BC[n]:=by rw[BO,AT c];rfl
  have y:=DB.1 hR.GM _ (Au c);rw[CQ]at y;unfold tl;simp only[BJ c,AB,Ad,eg];by_cases g:h.BC[n]<0
  .have j:h.BC[n] = -1:=by omega
   rw[AX j,AX g];have H:0<h.BF.length:=by
    grind
   have I:h.BF.getD 0 0=h.BF[0]:=by rw[BO,AT H];rfl
   have O:=q.todo;have J:List.take (h.BF.length-Int.toNat 1) (List.drop (Int.toNat 1) h.BF)=h.BF.drop 1:=List.take_of_length_le (by rw[List.length_drop];exact Nat.le_refl _);rw[Ub,AT H,AB,AB,B8 ⟨by omega,by omega⟩,I,J];rfl
  .have j:¬h.BC[n] = -1:=by omega
   rw[AU j,AU g];obtain⟨k,E,ek⟩:=hR.job c g;obtain⟨s1,Q,S⟩:=jm hR E;have B:n<(JQ h k).1.BC.length:=by rw[Q.GM];exact c
   rw[ek,AKw hR E,AB,BJ B,AB,AB];rfl
 .rw[AX a,AX a]
theorem AWJ{h:AE}(a:B0 h)(q:Bp):AIW h q=some (doF h q):=by
 grind[AIW,doF,LO,GX,Gl,AB,AKt,ABH,iT,ABF,sQ,AKz,AKv,B7,AV]
theorem T3{h:AE}(q:B0 h){l:List Bp}(G:l.length<=1048576):gO h l=some (I0 l h):=by
 have hlim:lim=268435456:=rfl;unfold gO;rw[GX q,AB];refine(C1 (F:=gP l) (n:=l.length) (fun i (v:List Bz×AE)=>(v.1,(i:Int),v.2)) (fun i v=>B0 v.2/\v.1.length=i) (fun i v=>some ((I0 (l.drop i) v.2).1,v.1++(I0 (l.drop i) v.2).2)) (by omega) ?_ (v:=([],h)) ⟨q,rfl⟩).trans ?_
 .rintro L i ⟨a,g⟩ ⟨e,j⟩ hi y;dsimp only at e j y ⊢;unfold gP AAM;dsimp only;rcases AZ i l.length with c|E
  .have B:=uN e l[i];rw[DR c];simp only[B4 c,BK,BJ c,AB,AWJ e,Bt c (show l.length<2 ^ 63 by omega)];rw[B8 (by simp only[AI,AR];omega)];have:=y (a++[(doF g l[i]).2],(doF g l[i]).1) ⟨B.2.1,by simp[j]⟩ c;dsimp only at this;rw[this];simp only[I0,List.append_assoc,List.singleton_append]
  .grind[BL,AV,I0]
 .simp
end Lv.P
