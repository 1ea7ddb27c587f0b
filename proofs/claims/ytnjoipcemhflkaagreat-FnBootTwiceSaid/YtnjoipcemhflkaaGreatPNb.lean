/- Plain laws about what the program computes. -/
import Derived.Test.YtnjoipcemhflkaaGreatPMb
set_option linter.unusedVariables false
set_option linter.unusedSimpArgs false
set_option linter.unusedSectionVars false
open Bool renaming false_eq_true->BM,true_eq_false->Dt
open Int renaming eq_ofNat_of_zero_le->AX,toNat_natCast->Ac
open List renaming all_eq_true->DN,getD_eq_getElem?_getD->A7,getElem?_eq_getElem->AS,getElem_mem->Ah,length_append->AK,length_cons->AI,length_nil->AP,set_set->FI
open Nat renaming le_trans->Av,lt_or_ge->AZ
namespace Lv.P
open Lv Go
theorem AJB{q:B3}(h:KT q=true):(q.Kind=1->0<=q.Ab /\ -1<=q.Bu)/\(q.Kind=3->0<=q.Ab)/\(q.Kind=7->0<=q.Id):=by
 grind[KT,Rv,CA]
theorem AHo{h:AE}(hR:RH h){q:B3}(B:0<=q.Ab)(E:-1<=q.Bu) :
 (bd (Mv q.Ab (↑h.AH.length:Int)) fun y=>
  br (!y)
   (jn (AbP h q) true)
   (bd (C5 q.Bu (-1) (w64 ((↑h.AH.length:Int)-1))) fun a=>
   br (!a)
    (jn (AbP h q) true)
    (jn (AbP h q) (q.Bu==q.Ab))))=some (Xt h q):=by
 have e:=hR.fit;have g:=hR.len;have I:=e.CM;have ew:w64 ((h.AH.length:Int)-1)=(h.AH.length:Int)-1:=A2 (by omega) (by omega);have G:∀b,(q.Bu<h.AH.length\/b=true)->AbP h q b=some (if b=true then 4
  else if inB q.BE 1 h.AQ.BE=false then 5
  else if h.AQ.CS<=q.DJ then 6
  else if inB q.Id 1 999=false then 7
  else if 0<=Fw h q.Id then 8
  else if h.AQ.Room<=DS h.AG q.Ab then 9
  else if 0<=q.Bu/\J7 h q.Bu<q.BE then 10
  else if 1000000<h.A0 then 11 else 0):=by
  intro b j;unfold AbP Ads lr;cases b with
  |true=>rfl|false=>
   have hF:q.Bu<h.AH.length:=by simpa using j
   have H:0<=q.Bu->AXc h q.Bu=some (J7 h q.Bu):=fun c=>mX c hF
   simp only[Bb,Fb,AB,BK,Bi,BM,if_false,ge_iff_le,gt_iff_lt,decide_eq_true_eq,HC e,Qy (show h.AG.length<2 ^ 58 by omega),AV,bne_iff_ne,ne_eq];by_cases c:0<=q.Bu
   .grind[AB]
   .grind
 grind[Xs,AB,Fb,Bi,AV,Xt,CA]
theorem bh{h:AE}(j:Bt h)(id:Int) :
 (bd (bL h id) fun a=>
 br (decide (a<0))
  (some 7)
  (bd (at? h.AG a) fun c=>
  br (c.State != 2)
   (some 13)
   (bd (at? h.AG a) fun e=>
   bd (AQY e h.Now) fun g=>
   br g
    (some 14)
    (jn lr ()))))=some (KY h id):=by
 unfold KY;rw[HC j,AB,BQ]
 grind[Yu,RJ,AB,ASr,Bi,lr,AV]
theorem HE{h:AE}(G:Bt h)(q:B3):AXd h q=some (verdict h q):=by
 unfold AXd verdict;rw[Fe G,AB,BK,Bi];by_cases g:DD h=true
 .have hR:=GW.1 g;have X:=hR.len;have Y:=hR.now;have ew:w64 ((h.AH.length:Int)-1)=(h.AH.length:Int)-1:=A2 (by omega) (by omega);rw[AW g,AW g];unfold Ht;rw[Fb,AB,BK,Bi];cases inB q.Kind 1 7
  .rfl
  .simp only[if_true,Dt,if_false];rw[mW,AB,BK,Bi];cases ha:KT q
   .rfl
   .obtain⟨l1,l3,l7⟩:=AJB ha;have j:lr ()=some 0:=rfl;simp only[if_true,Dt,if_false];by_cases a:q.Kind=1
    .rw[AW a,Bi,AW (by simpa using a)];exact AHo hR (l1 a).1 (l1 a).2
    rw[AR a,Bi,AR (by simpa using a)];by_cases H:q.Kind=2
    .rw[AW H,Bi,AW (by simpa using H),HC G,AB,BQ,AV,j];split<;>rfl
    rw[AR H,Bi,AR (by simpa using H)];by_cases y:q.Kind=3
    .have hc:=l3 y;rw[AW y,Bi,AW (by simpa using y),Xs,AB,ew,Fb,AB,BK,BK,Bi,Bi,AV,j];by_cases Q:(h.AH.length:Int)<=q.Ab
     .rw[AR (by rw[CA];omega),AW Q]
     .rw[AW (by rw[CA];omega),AR Q,mX hc (by omega),AB,BQ];cases inB q.BE 1 60<;>simp<;>split<;>rfl
    rw[AR y,Bi,AR (by simpa using y)];unfold Adt;by_cases Z:q.Kind=4\/q.Kind=5
    .rw[AW Z];have:(q.Kind==4)=true\/(q.Kind==4)=false/\(q.Kind==5)=true:=by grind
     rcases this with e|⟨e,J⟩
     .rw[e,BP,AV,BP];exact bh G q.Id
     .rw[e,J,Bb,AV,BP];exact bh G q.Id
    .have e4:(q.Kind==4)=false:=by grind
     have J:(q.Kind==5)=false:=by grind
     rw[AR Z,e4,J,Bb,AV,Bb,Bi];by_cases I:q.Kind=6
     .rw[AW (by simpa using I),AW I,Bi,AV,j];by_cases c:1000000<=h.Now
      .rw[AW (by simp;omega),AW c]
      .rw[AR (by simp;omega),AR c]
     .rw[AR (by simpa using I),AR I,Bi];by_cases B:q.Kind=7
      .rw[AW (by simpa using B),AW B,BQ];by_cases E:h.AQ.Cu<=q.Id
       .rw[AW E,AW E]
       .rw[AR E,AR E];obtain⟨n,hn⟩:=AX (l7 B);have O:n<h.A9.length:=by have:=hR.PE;omega
        have L:=DN.1 hR.Fk _ (Ah O);rw[CA]at L;rw[hn,BG O,AB,Ac,A7,AS O,Option.getD_some];unfold Adu;simp only[Bi,AV,beq_iff_eq,j];by_cases S:h.A9[n] = -1
        .have:h.A9[n]<0:=by omega
         by_cases h3:h.BB.length=0<;>simp[S,h3,this]
        .have:¬h.A9[n]<0:=by omega
         simp[S,this]
      .rw[AR (by simpa using B),AR B,AV,j]
 .rw[AR g,AR g]
theorem V6{α:Type}{l:List α}{k:Int}(a:0<=k)(c:k<l.length)(v:α):at? (l.set k.toNat v) k=some v:=by
 grind[BG]
theorem RH.AXE{h:AE}(hR:RH h){k:Int}(c:0<=k)(e:k<h.AH.length):Kw (cbn h k).Row=true/\(cbn h k).Row.length<=10:=by
 obtain⟨n,rfl⟩:=AX c;have a:=hR.cb (i:=n) (by omega);have q:=CI hR.rules;have j:=a.room;have g:=RM h.AQ h.AG n h.Now;rw[a.row];exact⟨AEL hR.IE (by omega),by omega⟩
theorem RH.AM8{h:AE}(hR:RH h){k:Int}(a:0<=k)(c:k<h.AH.length):FD (cbn h k):=hR.fit.ED _ (U9 a c)
theorem AIY{h:AE}(hR:RH h){id:Int}(c:0<=Fw h id)(q:(par h id).State=2):RG ⟨(par h id).C7,id⟩=true/\(par h id).Id=id:=by
 have a:=hR.one c;have e:=E2 a.okp;have j:=CI hR.rules;have g:=a.pid
 grind[RG,CA]
theorem ANZ{h:AE}(c:Bt h)(id cabin frm size tier:Int):rT h id cabin frm size tier=some (bk h id cabin frm size tier):=by
 unfold rT AeM bk;rw[G3 c,AB,HE c,AB];simp only[Bi,bne_iff_ne,ne_eq];by_cases a:verdict h ⟨1,id,cabin,frm,size,tier⟩=0
 .rw[AR (not_not_intro a),AR (not_not_intro a)];obtain⟨hJ,_,_,_⟩:=sR a;have hR:=GR a;have g:=(AJB (QR a).2).1 rfl;dsimp only at g;obtain⟨H,q,y,G⟩:=Yn a;have I:=c.De;have j:=hR.AXE q y;have ec:at? h.AH cabin=some (cbn h cabin):=Ff q y;have hJl:(Mf h id cabin frm size tier).AH.length=h.AH.length:=by unfold Mf;dsimp only;split<;>simp[ET,JG,Gz,Cj]
  have hJr:=hJ.AXE (k:=cabin) q (by rw[hJl];exact y);have e:(cbn (Mf h id cabin frm size tier) cabin).Row=put ltE (E4 h.AQ (Hv h id cabin frm size tier) h.Now).1 (cbn h cabin).Row:=by
   grind[Mf,AAT,cbn,Gz,Hv,JG,Cj]
  rw[e]at hJr;rw[O8 c.CM,AB,M8 (by omega),AB];simp only[ec,AB];have E:=Ul (l:=(cbn h cabin).Row) (by omega) (E4 h.AQ (Hv h id cabin frm size tier) h.Now).1;rw[AW ⟨j.1,hJr.1⟩]at E;show bd (rP (cbn h cabin).Row (E4 h.AQ (Hv h id cabin frm size tier) h.Now).1) _=_;rw[E,AB];unfold Mf;dsimp only;by_cases B:0<=frm
  .have hX:at? (h.AH.set cabin.toNat ⟨(cbn h cabin).AY,put ltE (E4 h.AQ (Hv h id cabin frm size tier) h.Now).1 (cbn h cabin).Row,(cbn h cabin).By⟩) frm=some (cbn (Gz ⟨h.AQ,h.Now,w64 (h.A0+1),K8 h.AG (Hv h id cabin frm size tier),h.AH,h.BB,h.A9⟩ (Hv h id cabin frm size tier)) frm):=
    Ff (h:=Gz ⟨h.AQ,h.Now,w64 (h.A0+1),K8 h.AG (Hv h id cabin frm size tier),h.AH,h.BB,h.A9⟩ (Hv h id cabin frm size tier)) B (by simp only[Gz,Cj,List.length_set];exact G)
   rw[AW (by omega),AW B,hX];simp only[AB,pH,AV,IB c.todo];rfl
  .rw[AR (by omega),AR B];simp only[AB,AV,IB c.todo];rfl
 .rw[AW a,AW a]
theorem AMC{g:AE}{p:AU}{id:Int}(c:p.Id=id)(e:-1<=p.Bu)(h:p.Bu<g.AH.length)(j:g.AG.length<=1048576) :
 (if p.Bu = -1 then some (OK g (g.AG.eraseP fun x=>x.Id==id)) else some (OK (Cj g p.Bu ⟨(l8 (cbn g p.Bu).AY p.BE 0 0 0 (-1)).1,(cbn g p.Bu).Row,(cbn g p.Bu).By⟩) (g.AG.eraseP fun x=>x.Id==id)))=some (gone g p):=by
 unfold gone;rw[c];dsimp only;by_cases a:0<=p.Bu
 .rw[AR (by omega),AW a];rfl
 .rw[AW (by omega),AR a];rfl
theorem ADg{h:AE}(e:Bt h)(id:Int):AKm h id=some (OU h id):=by
 unfold AKm OU;rw[G3 e,AB,HE e,AB];simp only[Bi,bne_iff_ne,ne_eq];by_cases E:verdict h ⟨2,id,0,0,0,0⟩=0
 .rw[AR (not_not_intro E),AR (not_not_intro E)];obtain⟨Q,p0⟩:=Tg E;have hR:=GW.1 Q;have I:=hR.one p0;have c:=I.size;have J:=hR.len;have X:=E2 I.okp;have H:=I.pid;have y:∀g:AE,g.AH.length=h.AH.length->g.AG=h.AG->jY id (par h id) g=some (gone g (par h id),0):=by
   intro g S q;have a:=AMC (g:=g) (p:=par h id) H (by omega) (by omega) (by rw[q];exact e.CM);unfold jY AeO;have B:XC g.AG id=some (g.AG.eraseP fun x=>x.Id==id):=O7 (by rw[q];exact e.CM) id;simp only[Bi,bne_iff_ne,ne_eq,AV];by_cases G:(par h id).Bu = -1
   .rw[AR (not_not_intro G),B,AB];rw[AW G]at a;rw[<-Option.some.inj a];rfl
   .have ef:at? g.AH (par h id).Bu=some (cbn g (par h id).Bu):=Ff (by omega) (by omega);rw[AW G];simp only[ef,AB,Me,B];rw[AR G]at a;rw[<-Option.some.inj a];rfl
  have ec:at? h.AH (par h id).Ab=some (cbn h (par h id).Ab):=Ff c.2.1.1 (by omega);have j:=hR.AM8 c.2.1.1 (by omega);simp only[HC e,AB,Qc p0,GK,ec,beq_iff_eq,AV];unfold cancelled;dsimp only;by_cases s1:(par h id).State=1
  .rw[AW s1,AR (by omega),Uk j.1,AB];exact y (Te h (par h id).Ab id) (by simp[Te,Cj]) rfl
  .have O:(par h id).State=2:=by omega
   have L:=AIY hR p0 O;rw[AR s1,AW O,PC j.2 L.1,AB];simp only[V6 c.2.1.1 (show (par h id).Ab<(h.AH.length:Int) by omega),AB,S6,IB e.todo,FI];have:=y (ET (dropped h (par h id)) (QP (dropped h (par h id)).BB (par h id).Ab)) (by simp[ET,dropped,Cj]) rfl;rw[<-this];unfold dropped;rw[L.2];rfl
 .rw[AW E,AW E]
theorem mM{h:AE}(c:Bt h)(k n:Int):AQk h k n=some (bR h k n):=by
 unfold AQk bR;rw[G3 c,AB,HE c,AB];simp only[Bi,bne_iff_ne,ne_eq];by_cases a:verdict h ⟨3,0,k,0,n,0⟩=0
 .rw[AR (not_not_intro a),AR (not_not_intro a)];obtain⟨j,e,g⟩:=RZ a;have ec:at? h.AH k=some (cbn h k):=Ff e g;simp only[ec,AB,S7,IB c.todo];rfl
 .rw[AW a,AW a]
theorem AQF{X:AE}{p:AU}(a:0<=p.Bu)(c:p.Bu<X.AH.length):cbn (gone X p) p.Bu=⟨(l8 (cbn X p.Bu).AY p.BE 0 0 0 (-1)).1,(cbn X p.Bu).Row,(cbn X p.Bu).By⟩:=by
 grind[gone,Ij]
theorem ADe{h:AE}(g:Bt h)(id:Int):AQn h id=some (OP h id):=by
 unfold AQn OP jc;rw[G3 g,AB,HE g,AB];simp only[Bi,bne_iff_ne,ne_eq];by_cases e:verdict h ⟨4,id,0,0,0,0⟩=0
 .rw[AR (not_not_intro e),AR (not_not_intro e)];obtain⟨G,p0⟩:=Tf e;have hR:=GW.1 G;have H:=hR.one p0;have c:=H.size;have B:=hR.len;have E:=(Ti ((GQ e).2.2.2.1 (.inl rfl))).2;dsimp only at E;have j:=AIY hR p0 E;have ec:at? h.AH (par h id).Ab=some (cbn h (par h id).Ab):=Ff c.2.1.1 (by omega);have q:=hR.AM8 c.2.1.1 (by omega);have y:XC h.AG id=some (h.AG.eraseP fun x=>x.Id==id):=O7 g.CM id;simp only[HC g,AB,Qc p0,GK,ec,mV,V6 c.2.1.1 (show (par h id).Ab<(h.AH.length:Int) by omega),PC q.2 j.1,y,FI,AV];have hXl:(PJ h (par h id)).AH.length=h.AH.length:=by simp[PJ,Cj]
  have hX:(PJ h (par h id)).AH=h.AH.set (par h id).Ab.toNat ⟨(l8 (cbn h (par h id).Ab).AY (par h id).BE 0 (-1) 1 0).1,(cbn h (par h id).Ab).Row,(UX (cbn h (par h id).Ab).By ⟨(par h id).C7,id⟩).1⟩:=by unfold PJ Cj;rw[j.2]
  rw[<-hX];unfold accepted;dsimp only;by_cases a:0<=(par h id).Bu
  .have ef:at? (PJ h (par h id)).AH (par h id).Bu=some (cbn (PJ h (par h id)) (par h id).Bu):=Ff a (by omega);rw[AW (by omega),AW a,ef];simp only[AB,Me,V6 a (show (par h id).Bu<((PJ h (par h id)).AH.length:Int) by omega),S7,IB g.todo,FI];unfold Sl;rw[AQF a (by omega)];unfold gone Cj;simp only[AW a,FI,j.2];rfl
  .rw[AR (by omega),AR a];unfold gone;simp only[AR a,j.2];rfl
 .rw[AW e,AW e]
theorem Uo{h:AE}(hR:RH h){id:Int}(p0:0<=Fw h id)(Z:(par h id).State=2):XD h id=some (Io h (par h id)):=by
 have y:=hR.fit;have X:=hR.one p0;have E:=X.size;have S:=hR.len;have hs:=y.De;have H:=AIY hR p0 Z;have c:=E.2.1.1;have a:(par h id).Ab<(h.AH.length:Int):=by omega
 have ec:at? h.AH (par h id).Ab=some (cbn h (par h id).Ab):=Ff c a;have J:=hR.AM8 c a;have O:XC h.AG id=some (h.AG.eraseP fun x=>x.Id==id):=O7 y.CM id;unfold XD jd;simp only[HC y,AB,Qc p0,GK,ec,S6,V6 c a,PC J.2 H.1,ADj (show h.AQ.AY.length<2 ^ 62 by omega),FI,Bi,AV,O];have hXl:(dropped h (par h id)).AH.length=h.AH.length:=by simp[dropped,Cj]
 have hX:(dropped h (par h id)).AH=h.AH.set (par h id).Ab.toNat ⟨(l8 (cbn h (par h id).Ab).AY (par h id).BE 1 (-1) 0 0).1,(cbn h (par h id).Ab).Row,(UX (cbn h (par h id).Ab).By ⟨(par h id).C7,id⟩).1⟩:=by unfold dropped Cj;rw[H.2]
 have hF:=XZ hR X Z;by_cases q:(El h.AQ (par h id) h.Now).2=true
 .have j:=bQ q;have e:Io h (par h id)=Gz (OK (dropped h (par h id)) (K8 h.AG (El h.AQ (par h id) h.Now).1)) (El h.AQ (par h id) h.Now).1:=by unfold Io;rw[AW q]
  have hrowX:cbn (dropped h (par h id)) (par h id).Ab=⟨(l8 (cbn h (par h id).Ab).AY (par h id).BE 1 (-1) 0 0).1,(cbn h (par h id).Ab).Row,(UX (cbn h (par h id).Ab).By ⟨(par h id).C7,id⟩).1⟩:=by
   unfold dropped;rw[Ij c a c,AW rfl,H.2]
  have Q:=hR.AXE c a;have B:=hF.AXE c (by rw[(Qn h _).Ds];exact a);have e2:(cbn (Io h (par h id)) (par h id).Ab).Row=put ltE (E4 h.AQ (El h.AQ (par h id) h.Now).1 h.Now).1 (cbn h (par h id).Ab).Row:=by
   rw[e];unfold Gz;rw[j,Ij c (by show (par h id).Ab<((dropped h (par h id)).AH.length:Int);omega) c,AW rfl];show put ltE _ (cbn (dropped h (par h id)) (par h id).Ab).Row=_;rw[hrowX];rfl
  rw[e2]at B;have Y:=Ul (l:=(cbn h (par h id).Ab).Row) (by omega) (E4 h.AQ (El h.AQ (par h id) h.Now).1 h.Now).1;rw[AW ⟨Q.1,B.1⟩]at Y;simp only[q,if_true,O8 y.CM,AB,M8 (show h.AQ.AY.length<2 ^ 62 by omega),Y];rw[e];unfold Gz;rw[j]
  grind[Cj,OK,dropped,par,cbn,put,ltE,List.set_set]
 .have I:(El h.AQ (par h id) h.Now).2=false:=by simpa using q
  have e:Io h (par h id)=gone (dropped h (par h id)) (par h id):=by unfold Io;rw[AR q]
  have L:=AMC (g:=dropped h (par h id)) (p:=par h id) H.2 E.2.2.1.1 (by omega) y.CM;rw[e,<-L];simp only[I,BM,if_false,<-hX,bne_iff_ne,ne_eq];by_cases G:(par h id).Bu = -1
  .rw[AR (not_not_intro G),AW G];rfl
  .have ef:at? (dropped h (par h id)).AH (par h id).Bu=some (cbn (dropped h (par h id)) (par h id).Bu):=Ff (by omega) (by omega);rw[AW G,AR G,ef];simp only[AB,Me];rfl
theorem xj{h:AE}(c:Bt h)(id:Int):AKo h id=some (MK h id):=by
 unfold AKo MK;rw[G3 c,AB,HE c,AB];simp only[Bi,bne_iff_ne,ne_eq];by_cases a:verdict h ⟨5,id,0,0,0,0⟩=0
 .rw[AR (not_not_intro a),AR (not_not_intro a)];obtain⟨g,p0⟩:=Rr a;have hR:=GW.1 g;have e:=(Ti ((GQ a).2.2.2.1 (.inr rfl))).2;dsimp only at e;have hF:=XZ hR (hR.one p0) e;simp only[HC c,AB,Qc p0,Uo hR p0 e,IB hF.fit.todo];rfl
 .rw[AW a,AW a]
theorem APj{n:Nat}{h x:AE}(H:Sm n h)(J:x.AH.length=h.AH.length)(q:∀c:Int,DS h.AG c<=19)(Q:n+h.AH.length<=1048576):BD (AcR x) big (0,h)=some (K0 h.AH.length 0 h,0):=by
 generalize a:h.AH.length=len at *;refine(C3 (F:=AcR x) (n:=len) (fun i (v:AE)=>((i:Int),v)) (fun i v=>Sm (n+i) v/\v.AH.length=len/\v.AG=h.AG) (fun i v=>some (K0 (len-i) i v,0)) (by omega) ?_ (v:=h) ⟨H,a,rfl⟩).trans (by rw[Nat.sub_zero]);intro L i v ⟨G,E,g⟩ hi O;have y:=G.fit (by omega);unfold AcR;dsimp only;rw[J];rcases AZ i len with j|j
 .have S:=y.De;have I:=y.CM;rw[B9 j,BP,Q1 (by omega) I (by rw[g];exact q _),AB,Ff (by omega) (by omega),AB,AB,Qy (by omega),AB];have e:K0 (len-i) i v=K0 (len-(i+1)) (i+1) (LQ v i):=by rw[show len-i=(len-(i+1))+1 by omega];rfl
  rw[e];have B:=O (LQ v i) ⟨by have:=oW G i;rw[Nat.add_assoc]at this;exact this,by rw[tf];exact E,by rw[AEy.IE];exact g⟩ j;rw[<-B];unfold AeR LQ;simp only[BQ,gt_iff_lt,AV,Bn j (show len<2 ^ 63 by omega),Ac,IB y.todo,AB];split<;>rfl
 .have:i=len:=by omega
  subst this;rw[Cr,Bb,AV,Nat.sub_self];rfl
theorem ANf{h:AE}(g:Bt h):AQo h=some (cJ h):=by
 unfold AQo cJ;rw[G3 g,AB,HE g,AB];simp only[Bi,bne_iff_ne,ne_eq];by_cases e:verdict h ⟨6,0,0,0,0,0⟩=0
 .have hR:=GR e;have a:=hR.sm;have j:=hR.len;have y:=CI hR.rules;have q:Sm 1000 ⟨h.AQ,w64 (h.Now+1),h.A0,h.AG,h.AH,h.BB,h.A9⟩:=⟨a.De,a.CM,a.Ds,a.ED,a.todo,a.Fk⟩;rw[AR (not_not_intro e),AR (not_not_intro e)];exact APj (x:=h) q rfl (fun c=>by have:=hR.cnt c;show DS h.AG c<=19;omega) (by show 1000+h.AH.length<=1048576;omega)
 .rw[AW e,AW e]
theorem xq{w:Aw}(a:DV w)(now:Int):ACX w now=some ((Eu w).filter fun p=>decide (p.At<=now)):=by
 have hlim:lim=268435456:=rfl;have c:=IF a;unfold ACX;rw[Of a,AB,collect (l:=Eu w) (fun p=>if p.At<=now then some p else none) some c ?_ ?_]
 .congr 1;generalize Eu w=l
  induction l<;>grind
 .grind[AeC,AeB,BG,AB,BQ,AV,B8]
 grind[AeC,AgL,Bb,AV]
theorem Up{h:AE}(hR:RH h){k:Nat}(c:k<h.AH.length):AQp h k=some true:=by
 have a:=hR.len;unfold AQp jf;rw[Fe hR.fit,GW.2 hR,AB,BP,Xs,AB,AV,A2 (by omega) (by omega),CA.2 (by omega)]
theorem AHj{h:AE}(hR:RH h){k:Nat}(c:k<h.AH.length):AKe h k=some (kb (cbn h k).By h.Now):=by
 have hlim:lim=268435456:=rfl;have a:=(hR.AM8 (k:=(k:Int)) (by omega) (by omega)).2;have e:=IF a;unfold AKe;rw[Up hR c,AB,BK,BP,show at? h.AH (k:Int)=some (cbn h k) from Ff (by omega) (by omega),AB,xq a,AB];generalize hD:(Eu (cbn h k).By).filter (fun p=>decide (p.At<=h.Now))=D;have hDl:D.length<=1048576:=by rw[<-hD];exact Av (List.length_filter_le _ _) e
 rw[collect (l:=D) (fun p=>some p.Id) some hDl ?_ ?_]
 .unfold kb;rw[<-hD];congr 1;generalize Eu (cbn h k).By=l
  induction l<;>grind
 .grind[AeD,BP,BG,AB,B8]
 grind[AeD,AgM,Bb,AV]
theorem ADi{h:AE}(hR:RH h){k:Nat}(g:k<h.AH.length):AQe h k=some (XY h k):=by
 obtain⟨hO,E⟩:=Sg hR g;unfold AQe XY;rw[G3 hR.fit,AB,AHj hR g,AB];generalize kb (cbn h k).By h.Now=D at *;refine(C3 (F:=AeE D) (n:=D.length) (fun i (v:AE)=>((i:Int),v)) (fun i v=>RH v/\AM2 v (D.drop i)) (fun i v=>some (T1 (D.drop i) v)) (by omega) ?_ (v:=h) ⟨hR,hO⟩);rintro L i v ⟨j,c⟩ hi y;unfold AeE AgN;dsimp only;rcases AZ i D.length with a|q
 .rw[Dg a]at c ⊢;have e:=c.2 D[i] (List.mem_cons_self ..);obtain⟨s1,B,_⟩:=VI j c;simp only[B9 a,BP,BG a,AB,Uo j e.1 e.2,Bn a (show D.length<2 ^ 63 by omega)];exact y _ ⟨s1,B⟩ a
 .obtain rfl:i=D.length:=by omega
  rw[Cr,Bb,AV,List.drop_length];rfl
theorem xv(p:AU)(now:Int):AQf p now=some (cA p now):=by
 unfold AQf jK cA;rw[AV,AV,CX]
theorem pF{l:List Au}(a:l.length<=1048576){skip:List Int}(c:skip.length<=1048576)(free:Int):AKh l free skip=some (atF (ADN free skip) l 0):=by
 unfold AKh AKg;rw[Qb (l:=l) (p:=ADN free skip) (by omega) ?_ ?_,AB]
 .intro L i h;unfold AeG AKf AeF ADN
  grind[BP,BG,AB,O6,AV,CX]
 grind[AeG,AgO,Bb,AV]
theorem mN{h:AE}(hR:RH h){k:Nat}(e:k<h.AH.length):ACY h k=some (E1 h k):=by
 have hlim:lim=268435456:=rfl;have c:=hR.fit;have a:=c.CM;have j:(nz h).length<=1048576:=Av (List.length_filterMap_le _ _) a;have g:=(hR.AM8 (k:=(k:Int)) (by omega) (by omega)).1;unfold ACY;rw[Up hR e,AB,BK,BP,collect (l:=h.AG) (fun p=>if cA p h.Now=true then some p.Id else none) (AeI h k) a ?_ ?_]
 .grind[AeI,at?,cbn,AB,nz,pF,Ur,E1,BQ,uH]
 .grind[AeJ,AeH,BG,AB,xv,Bi,AV,B8]
 grind[AeJ,Bb,AV]
theorem AHk{h:AE}(hR:RH h){k:Nat}(g:k<h.AH.length):AKv h k=some (if E1 h k=0 then (h,0) else (Is h k (E1 h k),E1 h k)):=by
 have a:=hR.fit;unfold AKv;rw[G3 a,AB,mN hR g,AB,Bi];by_cases c:E1 h k=0
 .grind
 .obtain⟨j,q,y,B,E⟩:=m7 hR g c;have e:=hR.AM8 (k:=(k:Int)) (by omega) (by omega);have ec:at? h.AH (k:Int)=some (cbn h k):=Ff (by omega) (by omega);rw[AR (by simpa using c),AR c];simp only[HC a,AB,Qc j,GK,ec,mU,V6 (show 0<=(k:Int) by omega) (show (k:Int)<(h.AH.length:Int) by omega),Uk e.1,O8 a.CM,FI,Un e.2];rfl
theorem APK{h:AE}(hR:RH h){k:Nat}(y:k<h.AH.length):BD (jw k) big ([],h)=some (OD k 10 h []):=by
 have hlim:lim=268435456:=rfl;refine aC (F:=jw k) (fun x=>some (OD k (10-x.1.length) x.2 x.1)) (fun x=>RH x.2/\k<x.2.AH.length/\x.1.length+(cbn x.2 k).Row.length<=10) (fun x=>(cbn x.2 k).Row.length) ?_ (x:=([],h)) ⟨hR,y,by have:=dp hR y;simpa using this⟩ (by have:=dp hR y;show (cbn h k).Row.length<_;omega);rintro L ⟨a,g⟩ ⟨q,c,e⟩ E;dsimp only at q c e E ⊢;unfold jw;dsimp only;rw[AHk q c,AB];by_cases j:E1 g k=0
 .grind[AMl,BP]
 .obtain⟨s1,H⟩:=Va q c j;have B:=AD3 j;rw[AR j];dsimp only;have G:(E1 g k==0)=false:=by simpa using j
  rw[G,Bb,B8 (by simp only[AI,AP];omega),E (a++[E1 g k],Is g k (E1 g k)) ⟨s1,by rw[(RD g k _).Ds];exact c,by simp only[AK,AI,AP];omega⟩ (by dsimp only;omega)];congr 1;rw[show 10-a.length=(10-(a++[E1 g k]).length)+1 by simp only[AK,AI,AP];omega]
  conv=>rhs;unfold OD
  rw[AR j]
theorem ANc{h:AE}(hR:RH h){k:Nat}(a:k<h.AH.length):AKw h k=some (Jy h k):=by
 obtain⟨c,e⟩:=Qm hR (Sg hR a).1;unfold AKw;rw[ADi hR a,AB];exact APK c (by rw[e.Ds];exact a)
theorem ANb{h:AE}(q:Bt h)(who:Int):AKx h who=some (Uu h who):=by
 unfold AKx Uu;rw[G3 q,AB,HE q,AB];simp only[Bi,bne_iff_ne,ne_eq,beq_iff_eq];by_cases a:verdict h ⟨7,who,0,0,0,0⟩=0
 .rw[AR (not_not_intro a),AR (not_not_intro a)];have hR:=GR a;have G:=hR.len;obtain⟨n,c,e,L⟩:=Ra rfl a;dsimp only at e;subst e;have eg:h.A9.getD n 0=h.A9[n]:=by rw[A7,AS c];rfl
  have y:=DN.1 hR.Fk _ (Ah c);rw[CA]at y;unfold Ve;simp only[BG c,AB,Ac,eg];by_cases g:h.A9[n]<0
  .have j:h.A9[n] = -1:=by omega
   rw[AW j,AW g];have H:0<h.BB.length:=by
    grind
   have I:h.BB.getD 0 0=h.BB[0]:=by rw[A7,AS H];rfl
   have O:=q.todo;have J:List.take (h.BB.length-Int.toNat 1) (List.drop (Int.toNat 1) h.BB)=h.BB.drop 1:=List.take_of_length_le (by rw[List.length_drop];exact Nat.le_refl _);rw[V7,AS H,AB,AB,B8 ⟨by omega,by omega⟩,I,J];rfl
  .have j:¬h.A9[n] = -1:=by omega
   rw[AR j,AR g];obtain⟨k,E,ek⟩:=hR.job c g;obtain⟨s1,Q,S⟩:=Vk hR E;have B:n<(Jy h k).1.A9.length:=by rw[Q.Fk];exact c
   rw[ek,ANc hR E,AB,BG B,AB,AB];rfl
 .rw[AW a,AW a]
theorem AWc{h:AE}(a:Bt h)(q:B3):AKy h q=some (doF h q):=by
 grind[AKy,doF,jy,G3,HE,AB,ANZ,ADg,mM,ADe,xj,ANf,ANb,Bi,AV]
theorem Qz{h:AE}(q:Bt h){l:List B3}(G:l.length<=1048576):AQq h l=some (Ge l h):=by
 have hlim:lim=268435456:=rfl;unfold AQq;rw[G3 q,AB];refine(C3 (F:=AeT l) (n:=l.length) (fun i (v:List B6×AE)=>(v.1,(i:Int),v.2)) (fun i v=>Bt v.2/\v.1.length=i) (fun i v=>some ((Ge (l.drop i) v.2).1,v.1++(Ge (l.drop i) v.2).2)) (by omega) ?_ (v:=([],h)) ⟨q,rfl⟩).trans ?_
 .rintro L i ⟨a,g⟩ ⟨e,j⟩ hi y;dsimp only at e j y ⊢;unfold AeT AgS;dsimp only;rcases AZ i l.length with c|E
  .have B:=zD e l[i];rw[Dg c];simp only[B9 c,BP,BG c,AB,AWc e,Bn c (show l.length<2 ^ 63 by omega)];rw[B8 (by simp only[AI,AP];omega)];have:=y (a++[(doF g l[i]).2],(doF g l[i]).1) ⟨B.2.1,by simp[j]⟩ c;dsimp only at this;rw[this];simp only[Ge,List.append_assoc,List.singleton_append]
  .grind[Bb,AV,Ge]
 .simp
end Lv.P
