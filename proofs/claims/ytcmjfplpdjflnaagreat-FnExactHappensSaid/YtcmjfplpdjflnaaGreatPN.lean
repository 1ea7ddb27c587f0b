/- Plain laws about what the program computes. -/
import Derived.Test.YtcmjfplpdjflnaaGreatPM
set_option linter.unusedVariables false
set_option linter.unusedSimpArgs false
set_option linter.unusedSectionVars false
open Bool renaming false_eq_true->BM,true_eq_false->DZ
open Int renaming eq_ofNat_of_zero_le->A6,toNat_natCast->Aa
open List renaming all_eq_true->DC,getD_eq_getElem?_getD->BP,getElem?_eq_getElem->AV,getElem_mem->Ao,length_append->AP,length_cons->AJ,length_nil->AS,set_set->C1
open Nat renaming le_trans->A1,lt_or_ge->Ab
namespace Lv.P
open Lv Go
theorem AGl{q:Bo}(h:KE q=true):(q.Kind=1->0<=q.AY /\ -1<=q.Bk)/\(q.Kind=3->0<=q.AY)/\(q.Kind=7->0<=q.Id):=by
 grind[KE,QX,CQ]
theorem AFK{h:AF}(hR:RH h){q:Bo}(B:0<=q.AY)(E:-1<=q.Bk) :
 (bd (Lq q.AY (↑h.AH.length:Int)) fun y=>
  br (!y)
   (jn (LH h q) true)
   (bd (C0 q.Bk (-1) (w64 ((↑h.AH.length:Int)-1))) fun a=>
   br (!a)
    (jn (LH h q) true)
    (jn (LH h q) (q.Bk==q.AY))))=some (WM h q):=by
 have e:=hR.fit;have g:=hR.len;have I:=e.CN;have ew:w64 ((h.AH.length:Int)-1)=(h.AH.length:Int)-1:=Aq (by omega) (by omega);have G:∀b,(q.Bk<h.AH.length\/b=true)->LH h q b=some (if b=true then 4
  else if inB q.BB 1 h.AQ.BB=false then 5
  else if h.AQ.Ce<=q.Cv then 6
  else if inB q.Id 1 999=false then 7
  else if 0<=Fv h q.Id then 8
  else if h.AQ.Room<=DG h.AG q.AY then 9
  else if 0<=q.Bk/\JL h q.Bk<q.BB then 10
  else if 1000000<h.Ay then 11 else 0):=by
  intro b j;unfold LH gJ IG;cases b with
  |true=>rfl|false=>
   have hF:q.Bk<h.AH.length:=by simpa using j
   have H:0<=q.Bk->nr h q.Bk=some (JL h q.Bk):=fun c=>jR c hF
   simp only[BO,E9,AB,BK,CJ,BM,if_false,ge_iff_le,gt_iff_lt,decide_eq_true_eq,Ga e,Pn (show h.AG.length<2 ^ 58 by omega),AU,bne_iff_ne,ne_eq];by_cases c:0<=q.Bk
   .grind[AB]
   .grind
 grind[WL,AB,E9,CJ,AU,WM,CQ]
theorem ZZ{h:AF}(j:By h)(id:Int) :
 (bd (Lt h id) fun a=>
 br (decide (a<0))
  (some 7)
  (bd (at? h.AG a) fun c=>
  br (c.State != 2)
   (some 13)
   (bd (at? h.AG a) fun e=>
   bd (AAX e h.Now) fun g=>
   br g
    (some 14)
    (jn IG ()))))=some (Jo h id):=by
 unfold Jo;rw[Ga j,AB,BH]
 grind[XG,P4,AB,AS4,CJ,IG,AU]
theorem Gb{h:AF}(G:By h)(q:Bo):Q3 h q=some (verdict h q):=by
 unfold Q3 verdict;rw[GZ G,AB,BK,CJ];by_cases g:D6 h=true
 .have hR:=JY.1 g;have X:=hR.len;have Y:=hR.now;have ew:w64 ((h.AH.length:Int)-1)=(h.AH.length:Int)-1:=Aq (by omega) (by omega);rw[AW g,AW g];unfold HL;rw[E9,AB,BK,CJ];cases inB q.Kind 1 7
  .rfl
  .simp only[if_true,DZ,if_false];rw[jQ,AB,BK,CJ];cases ha:KE q
   .rfl
   .obtain⟨l1,l3,l7⟩:=AGl ha;have j:IG ()=some 0:=rfl;simp only[if_true,DZ,if_false];by_cases a:q.Kind=1
    .rw[AW a,CJ,AW (by simpa using a)];exact AFK hR (l1 a).1 (l1 a).2
    rw[AT a,CJ,AT (by simpa using a)];by_cases H:q.Kind=2
    .rw[AW H,CJ,AW (by simpa using H),Ga G,AB,BH,AU,j];split<;>rfl
    rw[AT H,CJ,AT (by simpa using H)];by_cases y:q.Kind=3
    .have hc:=l3 y;rw[AW y,CJ,AW (by simpa using y),WL,AB,ew,E9,AB,BK,BK,CJ,CJ,AU,j];by_cases Q:(h.AH.length:Int)<=q.AY
     .rw[AT (by rw[CQ];omega),AW Q]
     .rw[AW (by rw[CQ];omega),AT Q,jR hc (by omega),AB,BH];cases inB q.BB 1 60<;>simp<;>split<;>rfl
    rw[AT y,CJ,AT (by simpa using y)];unfold gK;by_cases Z:q.Kind=4\/q.Kind=5
    .rw[AW Z];have:(q.Kind==4)=true\/(q.Kind==4)=false/\(q.Kind==5)=true:=by grind
     rcases this with e|⟨e,J⟩
     .rw[e,BL,AU,BL];exact ZZ G q.Id
     .rw[e,J,BO,AU,BL];exact ZZ G q.Id
    .have e4:(q.Kind==4)=false:=by grind
     have J:(q.Kind==5)=false:=by grind
     rw[AT Z,e4,J,BO,AU,BO,CJ];by_cases I:q.Kind=6
     .rw[AW (by simpa using I),AW I,CJ,AU,j];by_cases c:1000000<=h.Now
      .rw[AW (by simp;omega),AW c]
      .rw[AT (by simp;omega),AT c]
     .rw[AT (by simpa using I),AT I,CJ];by_cases B:q.Kind=7
      .rw[AW (by simpa using B),AW B,BH];by_cases E:h.AQ.C3<=q.Id
       .rw[AW E,AW E]
       .rw[AT E,AT E];obtain⟨n,hn⟩:=A6 (l7 B);have O:n<h.BC.length:=by have:=hR.Rb;omega
        have L:=DC.1 hR.F5 _ (Ao O);rw[CQ]at L;rw[hn,BG O,AB,Aa,BP,AV O,Option.getD_some];unfold gM;simp only[CJ,AU,beq_iff_eq,j];by_cases S:h.BC[n] = -1
        .have:h.BC[n]<0:=by omega
         by_cases h3:h.BE.length=0<;>simp[S,h3,this]
        .have:¬h.BC[n]<0:=by omega
         simp[S,this]
      .rw[AT (by simpa using B),AT B,AU,j]
 .rw[AT g,AT g]
theorem UW{α:Type}{l:List α}{k:Int}(a:0<=k)(c:k<l.length)(v:α):at? (l.set k.toNat v) k=some v:=by
 grind[BG]
theorem RH.AXW{h:AF}(hR:RH h){k:Int}(c:0<=k)(e:k<h.AH.length):J5 (cbn h k).Row=true/\(cbn h k).Row.length<=10:=by
 obtain⟨n,rfl⟩:=A6 c;have a:=hR.cb (i:=n) (by omega);have q:=CR hR.rules;have j:=a.room;have g:=P6 h.AQ h.AG n h.Now;rw[a.row];exact⟨ACH hR.J2 (by omega),by omega⟩
theorem RH.AKo{h:AF}(hR:RH h){k:Int}(a:0<=k)(c:k<h.AH.length):EC (cbn h k):=hR.fit.Dw _ (TV a c)
theorem AFv{h:AF}(hR:RH h){id:Int}(c:0<=Fv h id)(q:(par h id).State=2):P2 ⟨(par h id).Cq,id⟩=true/\(par h id).Id=id:=by
 have a:=hR.one c;have e:=E3 a.okp;have j:=CR hR.rules;have g:=a.pid
 grind[P2,CQ]
theorem ALG{h:AF}(c:By h)(id cabin frm size tier:Int):AIi h id cabin frm size tier=some (jV h id cabin frm size tier):=by
 unfold AIi gA jV;rw[GQ c,AB,Gb c,AB];simp only[CJ,bne_iff_ne,ne_eq];by_cases a:verdict h ⟨1,id,cabin,frm,size,tier⟩=0
 .rw[AT (not_not_intro a),AT (not_not_intro a)];obtain⟨hJ,_,_,_⟩:=ALS a;have hR:=Gt a;have g:=(AGl (PH a).2).1 rfl;dsimp only at g;obtain⟨H,q,y,G⟩:=W7 a;have I:=c.Dr;have j:=hR.AXW q y;have ec:at? h.AH cabin=some (cbn h cabin):=FF q y;have hJl:(La h id cabin frm size tier).AH.length=h.AH.length:=by unfold La;dsimp only;split<;>simp[El,JN,GM,Cu]
  have hJr:=hJ.AXW (k:=cabin) q (by rw[hJl];exact y);have e:(cbn (La h id cabin frm size tier) cabin).Row=put ltE (EX h.AQ (HN h id cabin frm size tier) h.Now).1 (cbn h cabin).Row:=by
   grind[La,AOG,cbn,GM,HN,JN,Cu]
  rw[e]at hJr;rw[Nz c.CN,AB,MH (by omega),AB];simp only[ec,AB];have E:=S4 (l:=(cbn h cabin).Row) (by omega) (EX h.AQ (HN h id cabin frm size tier) h.Now).1;rw[AW ⟨j.1,hJr.1⟩]at E;show bd (nx (cbn h cabin).Row (EX h.AQ (HN h id cabin frm size tier) h.Now).1) _=_;rw[E,AB];unfold La;dsimp only;by_cases B:0<=frm
  .have hX:at? (h.AH.set cabin.toNat ⟨(cbn h cabin).AZ,put ltE (EX h.AQ (HN h id cabin frm size tier) h.Now).1 (cbn h cabin).Row,(cbn h cabin).Bq⟩) frm=some (cbn (GM ⟨h.AQ,h.Now,w64 (h.Ay+1),KF h.AG (HN h id cabin frm size tier),h.AH,h.BE,h.BC⟩ (HN h id cabin frm size tier)) frm):=
    FF (h:=GM ⟨h.AQ,h.Now,w64 (h.Ay+1),KF h.AG (HN h id cabin frm size tier),h.AH,h.BE,h.BC⟩ (HN h id cabin frm size tier)) B (by simp only[GM,Cu,List.length_set];exact G)
   rw[AW (by omega),AW B,hX];simp only[AB,ll,AU,Hb c.todo];rfl
  .rw[AT (by omega),AT B];simp only[AB,AU,Hb c.todo];rfl
 .rw[AW a,AW a]
theorem AJp{g:AF}{p:AM}{id:Int}(c:p.Id=id)(e:-1<=p.Bk)(h:p.Bk<g.AH.length)(j:g.AG.length<=1048576) :
 (if p.Bk = -1 then some (NL g (g.AG.eraseP fun x=>x.Id==id)) else some (NL (Cu g p.Bk ⟨(l8 (cbn g p.Bk).AZ p.BB 0 0 0 (-1)).1,(cbn g p.Bk).Row,(cbn g p.Bk).Bq⟩) (g.AG.eraseP fun x=>x.Id==id)))=some (gone g p):=by
 unfold gone;rw[c];dsimp only;by_cases a:0<=p.Bk
 .rw[AT (by omega),AW a];rfl
 .rw[AW (by omega),AT a];rfl
theorem ABZ{h:AF}(e:By h)(id:Int):AI0 h id=some (PV h id):=by
 unfold AI0 PV;rw[GQ e,AB,Gb e,AB];simp only[CJ,bne_iff_ne,ne_eq];by_cases E:verdict h ⟨2,id,0,0,0,0⟩=0
 .rw[AT (not_not_intro E),AT (not_not_intro E)];obtain⟨Q,p0⟩:=R3 E;have hR:=JY.1 Q;have I:=hR.one p0;have c:=I.size;have J:=hR.len;have X:=E3 I.okp;have H:=I.pid;have y:∀g:AF,g.AH.length=h.AH.length->g.AG=h.AG->Vn id (par h id) g=some (gone g (par h id),0):=by
   intro g S q;have a:=AJp (g:=g) (p:=par h id) H (by omega) (by omega) (by rw[q];exact e.CN);unfold Vn ga;have B:Vm g.AG id=some (g.AG.eraseP fun x=>x.Id==id):=Ny (by rw[q];exact e.CN) id;simp only[CJ,bne_iff_ne,ne_eq,AU];by_cases G:(par h id).Bk = -1
   .rw[AT (not_not_intro G),B,AB];rw[AW G]at a;rw[<-Option.some.inj a];rfl
   .have ef:at? g.AH (par h id).Bk=some (cbn g (par h id).Bk):=FF (by omega) (by omega);rw[AW G];simp only[ef,AB,LZ,B];rw[AT G]at a;rw[<-Option.some.inj a];rfl
  have ec:at? h.AH (par h id).AY=some (cbn h (par h id).AY):=FF c.2.1.1 (by omega);have j:=hR.AKo c.2.1.1 (by omega);simp only[Ga e,AB,PS p0,Fl,ec,beq_iff_eq,AU];unfold cancelled;dsimp only;by_cases s1:(par h id).State=1
  .rw[AW s1,AT (by omega),Sy j.1,AB];exact y (lM h (par h id).AY id) (by simp[lM,Cu]) rfl
  .have O:(par h id).State=2:=by omega
   have L:=AFv hR p0 O;rw[AT s1,AW O,N0 j.2 L.1,AB];simp only[UW c.2.1.1 (show (par h id).AY<(h.AH.length:Int) by omega),AB,RQ,Hb e.todo,C1];have:=y (El (dropped h (par h id)) (Qa (dropped h (par h id)).BE (par h id).AY)) (by simp[El,dropped,Cu]) rfl;rw[<-this];unfold dropped;rw[L.2];rfl
 .rw[AW E,AW E]
theorem jL{h:AF}(c:By h)(k n:Int):AI1 h k n=some (ig h k n):=by
 unfold AI1 ig;rw[GQ c,AB,Gb c,AB];simp only[CJ,bne_iff_ne,ne_eq];by_cases a:verdict h ⟨3,0,k,0,n,0⟩=0
 .rw[AT (not_not_intro a),AT (not_not_intro a)];obtain⟨j,e,g⟩:=W6 a;have ec:at? h.AH k=some (cbn h k):=FF e g;simp only[ec,AB,RR,Hb c.todo];rfl
 .rw[AW a,AW a]
theorem AOF{X:AF}{p:AM}(a:0<=p.Bk)(c:p.Bk<X.AH.length):cbn (gone X p) p.Bk=⟨(l8 (cbn X p.Bk).AZ p.BB 0 0 0 (-1)).1,(cbn X p.Bk).Row,(cbn X p.Bk).Bq⟩:=by
 grind[gone,Jr]
theorem ABX{h:AF}(g:By h)(id:Int):AI3 h id=some (PO h id):=by
 unfold AI3 PO gi;rw[GQ g,AB,Gb g,AB];simp only[CJ,bne_iff_ne,ne_eq];by_cases e:verdict h ⟨4,id,0,0,0,0⟩=0
 .rw[AT (not_not_intro e),AT (not_not_intro e)];obtain⟨G,p0⟩:=R0 e;have hR:=JY.1 G;have H:=hR.one p0;have c:=H.size;have B:=hR.len;have E:=(mM ((N9 e).2.2.2.1 (.inl rfl))).2;dsimp only at E;have j:=AFv hR p0 E;have ec:at? h.AH (par h id).AY=some (cbn h (par h id).AY):=FF c.2.1.1 (by omega);have q:=hR.AKo c.2.1.1 (by omega);have y:Vm h.AG id=some (h.AG.eraseP fun x=>x.Id==id):=Ny g.CN id;simp only[Ga g,AB,PS p0,Fl,ec,jP,UW c.2.1.1 (show (par h id).AY<(h.AH.length:Int) by omega),N0 q.2 j.1,y,C1,AU];have hXl:(Ws h (par h id)).AH.length=h.AH.length:=by simp[Ws,Cu]
  have hX:(Ws h (par h id)).AH=h.AH.set (par h id).AY.toNat ⟨(l8 (cbn h (par h id).AY).AZ (par h id).BB 0 (-1) 1 0).1,(cbn h (par h id).AY).Row,(Sl (cbn h (par h id).AY).Bq ⟨(par h id).Cq,id⟩).1⟩:=by unfold Ws Cu;rw[j.2]
  rw[<-hX];unfold accepted;dsimp only;by_cases a:0<=(par h id).Bk
  .have ef:at? (Ws h (par h id)).AH (par h id).Bk=some (cbn (Ws h (par h id)) (par h id).Bk):=FF a (by omega);rw[AW (by omega),AW a,ef];simp only[AB,LZ,UW a (show (par h id).Bk<((Ws h (par h id)).AH.length:Int) by omega),RR,Hb g.todo,C1];unfold Sw;rw[AOF a (by omega)];unfold gone Cu;simp only[AW a,C1,j.2];rfl
  .rw[AT (by omega),AT a];unfold gone;simp only[AT a,j.2];rfl
 .rw[AW e,AW e]
theorem S8{h:AF}(hR:RH h){id:Int}(p0:0<=Fv h id)(Z:(par h id).State=2):AAd h id=some (Hw h (par h id)):=by
 have y:=hR.fit;have X:=hR.one p0;have E:=X.size;have S:=hR.len;have hs:=y.Dr;have H:=AFv hR p0 Z;have c:=E.2.1.1;have a:(par h id).AY<(h.AH.length:Int):=by omega
 have ec:at? h.AH (par h id).AY=some (cbn h (par h id).AY):=FF c a;have J:=hR.AKo c a;have O:Vm h.AG id=some (h.AG.eraseP fun x=>x.Id==id):=Ny y.CN id;unfold AAd gj;simp only[Ga y,AB,PS p0,Fl,ec,RQ,UW c a,N0 J.2 H.1,ABf (show h.AQ.AZ.length<2 ^ 62 by omega),C1,CJ,AU,O];have hXl:(dropped h (par h id)).AH.length=h.AH.length:=by simp[dropped,Cu]
 have hX:(dropped h (par h id)).AH=h.AH.set (par h id).AY.toNat ⟨(l8 (cbn h (par h id).AY).AZ (par h id).BB 1 (-1) 0 0).1,(cbn h (par h id).AY).Row,(Sl (cbn h (par h id).AY).Bq ⟨(par h id).Cq,id⟩).1⟩:=by unfold dropped Cu;rw[H.2]
 have hF:=iY hR X Z;by_cases q:(EG h.AQ (par h id) h.Now).2=true
 .have j:=ZP q;have e:Hw h (par h id)=GM (NL (dropped h (par h id)) (KF h.AG (EG h.AQ (par h id) h.Now).1)) (EG h.AQ (par h id) h.Now).1:=by unfold Hw;rw[AW q]
  have hrowX:cbn (dropped h (par h id)) (par h id).AY=⟨(l8 (cbn h (par h id).AY).AZ (par h id).BB 1 (-1) 0 0).1,(cbn h (par h id).AY).Row,(Sl (cbn h (par h id).AY).Bq ⟨(par h id).Cq,id⟩).1⟩:=by
   unfold dropped;rw[Jr c a c,AW rfl,H.2]
  have Q:=hR.AXW c a;have B:=hF.AXW c (by rw[(iZ h _).EN];exact a);have e2:(cbn (Hw h (par h id)) (par h id).AY).Row=put ltE (EX h.AQ (EG h.AQ (par h id) h.Now).1 h.Now).1 (cbn h (par h id).AY).Row:=by
   rw[e];unfold GM;rw[j,Jr c (by show (par h id).AY<((dropped h (par h id)).AH.length:Int);omega) c,AW rfl];show put ltE _ (cbn (dropped h (par h id)) (par h id).AY).Row=_;rw[hrowX];rfl
  rw[e2]at B;have Y:=S4 (l:=(cbn h (par h id).AY).Row) (by omega) (EX h.AQ (EG h.AQ (par h id) h.Now).1 h.Now).1;rw[AW ⟨Q.1,B.1⟩]at Y;simp only[q,if_true,Nz y.CN,AB,MH (show h.AQ.AZ.length<2 ^ 62 by omega),Y];rw[e];unfold GM;rw[j]
  grind[Cu,NL,dropped,par,cbn,put,ltE,List.set_set]
 .have I:(EG h.AQ (par h id) h.Now).2=false:=by simpa using q
  have e:Hw h (par h id)=gone (dropped h (par h id)) (par h id):=by unfold Hw;rw[AT q]
  have L:=AJp (g:=dropped h (par h id)) (p:=par h id) H.2 E.2.2.1.1 (by omega) y.CN;rw[e,<-L];simp only[I,BM,if_false,<-hX,bne_iff_ne,ne_eq];by_cases G:(par h id).Bk = -1
  .rw[AT (not_not_intro G),AW G];rfl
  .have ef:at? (dropped h (par h id)).AH (par h id).Bk=some (cbn (dropped h (par h id)) (par h id).Bk):=FF (by omega) (by omega);rw[AW G,AT G,ef];simp only[AB,LZ];rfl
theorem sk{h:AF}(c:By h)(id:Int):AI5 h id=some (Mv h id):=by
 unfold AI5 Mv;rw[GQ c,AB,Gb c,AB];simp only[CJ,bne_iff_ne,ne_eq];by_cases a:verdict h ⟨5,id,0,0,0,0⟩=0
 .rw[AT (not_not_intro a),AT (not_not_intro a)];obtain⟨g,p0⟩:=QS a;have hR:=JY.1 g;have e:=(mM ((N9 a).2.2.2.1 (.inr rfl))).2;dsimp only at e;have hF:=iY hR (hR.one p0) e;simp only[Ga c,AB,PS p0,S8 hR p0 e,Hb hF.fit.todo];rfl
 .rw[AW a,AW a]
theorem ANf{n:Nat}{h x:AF}(H:Sm n h)(J:x.AH.length=h.AH.length)(q:∀c:Int,DG h.AG c<=19)(Q:n+h.AH.length<=1048576):A3 (Vp x) big (0,h)=some (Ni h.AH.length 0 h,0):=by
 generalize a:h.AH.length=len at *;refine(DA (F:=Vp x) (n:=len) (fun i (v:AF)=>((i:Int),v)) (fun i v=>Sm (n+i) v/\v.AH.length=len/\v.AG=h.AG) (fun i v=>some (Ni (len-i) i v,0)) (by omega) ?_ (v:=h) ⟨H,a,rfl⟩).trans (by rw[Nat.sub_zero]);intro L i v ⟨G,E,g⟩ hi O;have y:=G.fit (by omega);unfold Vp;dsimp only;rw[J];rcases Ab i len with j|j
 .have S:=y.Dr;have I:=y.CN;rw[B6 j,BL,Pp (by omega) I (by rw[g];exact q _),AB,FF (by omega) (by omega),AB,AB,Pn (by omega),AB];have e:Ni (len-i) i v=Ni (len-(i+1)) (i+1) (PF v i):=by rw[show len-i=(len-(i+1))+1 by omega];rfl
  rw[e];have B:=O (PF v i) ⟨by have:=lJ G i;rw[Nat.add_assoc]at this;exact this,by rw[pd];exact E,by rw[AVa.J2];exact g⟩ j;rw[<-B];unfold gk PF;simp only[BH,gt_iff_lt,AU,Bp j (show len<2 ^ 63 by omega),Aa,Hb y.todo,AB];split<;>rfl
 .have:i=len:=by omega
  subst this;rw[C5,BO,AU,Nat.sub_self];rfl
theorem ALM{h:AF}(g:By h):AI6 h=some (lK h):=by
 unfold AI6 lK;rw[GQ g,AB,Gb g,AB];simp only[CJ,bne_iff_ne,ne_eq];by_cases e:verdict h ⟨6,0,0,0,0,0⟩=0
 .have hR:=Gt e;have a:=hR.sm;have j:=hR.len;have y:=CR hR.rules;have q:Sm 1000 ⟨h.AQ,w64 (h.Now+1),h.Ay,h.AG,h.AH,h.BE,h.BC⟩:=⟨a.Dr,a.CN,a.EN,a.Dw,a.todo,a.F5⟩;rw[AT (not_not_intro e),AT (not_not_intro e)];exact ANf (x:=h) q rfl (fun c=>by have:=hR.cnt c;show DG h.AG c<=19;omega) (by show 1000+h.AH.length<=1048576;omega)
 .rw[AW e,AW e]
theorem s5{w:Av}(a:DP w)(now:Int):AI7 w now=some ((FL w).filter fun p=>decide (p.At<=now)):=by
 have hlim:lim=268435456:=rfl;have c:=Kr a;unfold AI7;rw[ZW a,AB,collect (l:=FL w) (fun p=>if p.At<=now then some p else none) some c ?_ ?_]
 .congr 1;generalize FL w=l
  induction l<;>grind
 .grind[gn,gm,BG,AB,BH,AU,B4]
 grind[gn,AAf,BO,AU]
theorem S9{h:AF}(hR:RH h){k:Nat}(c:k<h.AH.length):AAe h k=some true:=by
 have a:=hR.len;unfold AAe gl;rw[GZ hR.fit,JY.2 hR,AB,BL,WL,AB,AU,Aq (by omega) (by omega),CQ.2 (by omega)]
theorem AFG{h:AF}(hR:RH h){k:Nat}(c:k<h.AH.length):AI8 h k=some (iU (cbn h k).Bq h.Now):=by
 have hlim:lim=268435456:=rfl;have a:=(hR.AKo (k:=(k:Int)) (by omega) (by omega)).2;have e:=Kr a;unfold AI8;rw[S9 hR c,AB,BK,BL,show at? h.AH (k:Int)=some (cbn h k) from FF (by omega) (by omega),AB,s5 a,AB];generalize hD:(FL (cbn h k).Bq).filter (fun p=>decide (p.At<=h.Now))=D;have hDl:D.length<=1048576:=by rw[<-hD];exact A1 (List.length_filter_le _ _) e
 rw[collect (l:=D) (fun p=>some p.Id) some hDl ?_ ?_]
 .unfold iU;rw[<-hD];congr 1;generalize FL (cbn h k).Bq=l
  induction l<;>grind
 .grind[gp,BL,BG,AB,B4]
 grind[gp,AAg,BO,AU]
theorem ABe{h:AF}(hR:RH h){k:Nat}(g:k<h.AH.length):AI9 h k=some (V2 h k):=by
 obtain⟨hO,E⟩:=Q9 hR g;unfold AI9 V2;rw[GQ hR.fit,AB,AFG hR g,AB];generalize iU (cbn h k).Bq h.Now=D at *;refine(DA (F:=gq D) (n:=D.length) (fun i (v:AF)=>((i:Int),v)) (fun i v=>RH v/\AKi v (D.drop i)) (fun i v=>some (SK (D.drop i) v)) (by omega) ?_ (v:=h) ⟨hR,hO⟩);rintro L i v ⟨j,c⟩ hi y;unfold gq AAh;dsimp only;rcases Ab i D.length with a|q
 .rw[DR a]at c ⊢;have e:=c.2 D[i] (List.mem_cons_self ..);obtain⟨s1,B,_⟩:=Td j c;simp only[B6 a,BL,BG a,AB,S8 j e.1 e.2,Bp a (show D.length<2 ^ 63 by omega)];exact y _ ⟨s1,B⟩ a
 .obtain rfl:i=D.length:=by omega
  rw[C5,BO,AU,List.drop_length];rfl
theorem s8(p:AM)(now:Int):AJA p now=some (Zi p now):=by
 unfold AJA gv Zi;rw[AU,AU,Cr]
theorem lj{l:List Ad}(a:l.length<=1048576){skip:List Int}(c:skip.length<=1048576)(free:Int):AJB l free skip=some (atF (ABI free skip) l 0):=by
 unfold AJB AOx;rw[PR (l:=l) (p:=ABI free skip) (by omega) ?_ ?_,AB]
 .intro L i h;unfold gx AOw gw ABI
  grind[BL,BG,AB,Nx,AU,Cr]
 grind[gx,AAi,BO,AU]
theorem jM{h:AF}(hR:RH h){k:Nat}(e:k<h.AH.length):AJC h k=some (EV h k):=by
 have hlim:lim=268435456:=rfl;have c:=hR.fit;have a:=c.CN;have j:(kj h).length<=1048576:=A1 (List.length_filterMap_le _ _) a;have g:=(hR.AKo (k:=(k:Int)) (by omega) (by omega)).1;unfold AJC;rw[S9 hR e,AB,BK,BL,collect (l:=h.AG) (fun p=>if Zi p h.Now=true then some p.Id else none) (gz h k) a ?_ ?_]
 .grind[gz,at?,cbn,AB,kj,lj,TC,EV,BH,qG]
 .grind[g9,gy,BG,AB,s8,CJ,AU,B4]
 grind[g9,BO,AU]
theorem AFH{h:AF}(hR:RH h){k:Nat}(g:k<h.AH.length):AIt h k=some (if EV h k=0 then (h,0) else (H2 h k (EV h k),EV h k)):=by
 have a:=hR.fit;unfold AIt;rw[GQ a,AB,jM hR g,AB,CJ];by_cases c:EV h k=0
 .grind
 .obtain⟨j,q,y,B,E⟩:=jm hR g c;have e:=hR.AKo (k:=(k:Int)) (by omega) (by omega);have ec:at? h.AH (k:Int)=some (cbn h k):=FF (by omega) (by omega);rw[AT (by simpa using c),AT c];simp only[Ga a,AB,PS j,Fl,ec,jO,UW (show 0<=(k:Int) by omega) (show (k:Int)<(h.AH.length:Int) by omega),Sy e.1,Nz a.CN,C1,S7 e.2];rfl
theorem ANF{h:AF}(hR:RH h){k:Nat}(y:k<h.AH.length):A3 (Vk k) big ([],h)=some (NF k 10 h []):=by
 have hlim:lim=268435456:=rfl;refine YU (F:=Vk k) (fun x=>some (NF k (10-x.1.length) x.2 x.1)) (fun x=>RH x.2/\k<x.2.AH.length/\x.1.length+(cbn x.2 k).Row.length<=10) (fun x=>(cbn x.2 k).Row.length) ?_ (x:=([],h)) ⟨hR,y,by have:=aa hR y;simpa using this⟩ (by have:=aa hR y;show (cbn h k).Row.length<_;omega);rintro L ⟨a,g⟩ ⟨q,c,e⟩ E;dsimp only at q c e E ⊢;unfold Vk;dsimp only;rw[AFH q c,AB];by_cases j:EV g k=0
 .grind[AKR,BL]
 .obtain⟨s1,H⟩:=T4 q c j;have B:=ABx j;rw[AT j];dsimp only;have G:(EV g k==0)=false:=by simpa using j
  rw[G,BO,B4 (by simp only[AJ,AS];omega),E (a++[EV g k],H2 g k (EV g k)) ⟨s1,by rw[(Pz g k _).EN];exact c,by simp only[AP,AJ,AS];omega⟩ (by dsimp only;omega)];congr 1;rw[show 10-a.length=(10-(a++[EV g k]).length)+1 by simp only[AP,AJ,AS];omega]
  conv=>rhs;unfold NF
  rw[AT j]
theorem ALJ{h:AF}(hR:RH h){k:Nat}(a:k<h.AH.length):AIu h k=some (JF h k):=by
 obtain⟨c,e⟩:=Pc hR (Q9 hR a).1;unfold AIu;rw[ABe hR a,AB];exact ANF c (by rw[e.EN];exact a)
theorem ALI{h:AF}(q:By h)(who:Int):AIv h who=some (Wa h who):=by
 unfold AIv Wa;rw[GQ q,AB,Gb q,AB];simp only[CJ,bne_iff_ne,ne_eq,beq_iff_eq];by_cases a:verdict h ⟨7,who,0,0,0,0⟩=0
 .rw[AT (not_not_intro a),AT (not_not_intro a)];have hR:=Gt a;have G:=hR.len;obtain⟨n,c,e,L⟩:=W8 rfl a;dsimp only at e;subst e;have eg:h.BC.getD n 0=h.BC[n]:=by rw[BP,AV c];rfl
  have y:=DC.1 hR.F5 _ (Ao c);rw[CQ]at y;unfold uG;simp only[BG c,AB,Aa,eg];by_cases g:h.BC[n]<0
  .have j:h.BC[n] = -1:=by omega
   rw[AW j,AW g];have H:0<h.BE.length:=by
    grind
   have I:h.BE.getD 0 0=h.BE[0]:=by rw[BP,AV H];rfl
   have O:=q.todo;have J:List.take (h.BE.length-Int.toNat 1) (List.drop (Int.toNat 1) h.BE)=h.BE.drop 1:=List.take_of_length_le (by rw[List.length_drop];exact Nat.le_refl _);rw[UX,AV H,AB,AB,B4 ⟨by omega,by omega⟩,I,J];rfl
  .have j:¬h.BC[n] = -1:=by omega
   rw[AT j,AT g];obtain⟨k,E,ek⟩:=hR.job c g;obtain⟨s1,Q,S⟩:=ka hR E;have B:n<(JF h k).1.BC.length:=by rw[Q.F5];exact c
   rw[ek,ALJ hR E,AB,BG B,AB,AB];rfl
 .rw[AW a,AW a]
theorem AWv{h:AF}(a:By h)(q:Bo):AIw h q=some (doF h q):=by
 grind[AIw,doF,LI,GQ,Gb,AB,ALG,ABZ,jL,ABX,sk,ALM,ALI,CJ,AU]
theorem Tz{h:AF}(q:By h){l:List Bo}(G:l.length<=1048576):gV h l=some (Ij l h):=by
 have hlim:lim=268435456:=rfl;unfold gV;rw[GQ q,AB];refine(DA (F:=gW l) (n:=l.length) (fun i (v:List Bf×AF)=>(v.1,(i:Int),v.2)) (fun i v=>By v.2/\v.1.length=i) (fun i v=>some ((Ij (l.drop i) v.2).1,v.1++(Ij (l.drop i) v.2).2)) (by omega) ?_ (v:=([],h)) ⟨q,rfl⟩).trans ?_
 .rintro L i ⟨a,g⟩ ⟨e,j⟩ hi y;dsimp only at e j y ⊢;unfold gW AAa;dsimp only;rcases Ab i l.length with c|E
  .have B:=ue e l[i];rw[DR c];simp only[B6 c,BL,BG c,AB,AWv e,Bp c (show l.length<2 ^ 63 by omega)];rw[B4 (by simp only[AJ,AS];omega)];have:=y (a++[(doF g l[i]).2],(doF g l[i]).1) ⟨B.2.1,by simp[j]⟩ c;dsimp only at this;rw[this];simp only[Ij,List.append_assoc,List.singleton_append]
  .grind[BO,AU,Ij]
 .simp
end Lv.P
