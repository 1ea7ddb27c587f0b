/- Plain laws about what the program computes. -/
import Derived.Test.YtnjoipcemhflkaaGreatPMc
set_option linter.unusedVariables false
set_option linter.unusedSimpArgs false
set_option linter.unusedSectionVars false
open Bool renaming false_eq_true->BA,true_eq_false->DN
open Int renaming eq_ofNat_of_zero_le->AZ,toNat_natCast->Ac
open List renaming all_eq_true->Cy,getD_eq_getElem?_getD->A0,getElem?_eq_getElem->AU,getElem_mem->BC,length_append->AN,length_cons->AI,length_nil->AP,set_set->Ea
open Nat renaming le_trans->Ar,lt_or_ge->AV
namespace Lv.P
open Lv Go
theorem ADM{q:B9}(h:KC q=true):(q.Kind=1->0<=q.AX /\ -1<=q.BY)/\(q.Kind=3->0<=q.AX)/\(q.Kind=7->0<=q.Id):=by
 grind[KC,Rh,B8]
theorem ACG{h:AE}(hR:RH h){q:B9}(B:0<=q.AX)(E:-1<=q.BY) :
 (bd (Mp q.AX (↑h.AH.length:Int)) fun y=>
  br (!y)
   (jn (Ly h q) true)
   (bd (Cq q.BY (-1) (w64 ((↑h.AH.length:Int)-1))) fun a=>
   br (!a)
    (jn (Ly h q) true)
    (jn (Ly h q) (q.BY==q.AX))))=some (Ws h q):=by
 have e:=hR.fit;have g:=hR.len;have I:=e.B4;have ew:w64 ((h.AH.length:Int)-1)=(h.AH.length:Int)-1:=A4 (by omega) (by omega);have G:∀b,(q.BY<h.AH.length\/b=true)->Ly h q b=some (if b=true then 4
  else if inB q.A5 1 h.AR.A5=false then 5
  else if h.AR.CK<=q.Ci then 6
  else if inB q.Id 1 999=false then 7
  else if 0<=FI h q.Id then 8
  else if h.AR.Room<=C2 h.AG q.AX then 9
  else if 0<=q.BY/\Jr h q.BY<q.A5 then 10
  else if 1000000<h.As then 11 else 0):=by
  intro b j;unfold Ly fH Ib;cases b with
  |true=>rfl|false=>
   have hF:q.BY<h.AH.length:=by simpa using j
   have H:0<=q.BY->ll h q.BY=some (Jr h q.BY):=fun c=>gw c hF
   simp only[BS,FE,AB,BN,Bb,BA,if_false,ge_iff_le,gt_iff_lt,decide_eq_true_eq,GX e,Qq (show h.AG.length<2 ^ 58 by omega),AT,bne_iff_ne,ne_eq];by_cases c:0<=q.BY
   .grind[AB]
   .grind
 grind[Wr,AB,FE,Bb,AT,Ws,B8]
theorem Zc{h:AE}(j:Bf h)(id:Int) :
 (bd (Mr h id) fun a=>
 br (decide (a<0))
  (some 7)
  (bd (at? h.AG a) fun c=>
  br (c.State != 2)
   (some 13)
   (bd (at? h.AG a) fun e=>
   bd (xh e h.Now) fun g=>
   br g
    (some 14)
    (jn Ib ()))))=some (KH h id):=by
 unfold KH;rw[GX j,AB,BJ]
 grind[Xe,Q9,AB,ANf,Bb,Ib,AT]
theorem GY{h:AE}(G:Bf h)(q:B9):SH h q=some (verdict h q):=by
 unfold SH verdict;rw[GW G,AB,BN,Bb];by_cases g:Dr h=true
 .have hR:=Hz.1 g;have X:=hR.len;have Y:=hR.now;have ew:w64 ((h.AH.length:Int)-1)=(h.AH.length:Int)-1:=A4 (by omega) (by omega);rw[if_pos g,if_pos g];unfold HJ;rw[FE,AB,BN,Bb];cases inB q.Kind 1 7
  .rfl
  .simp only[if_true,DN,if_false];rw[gv,AB,BN,Bb];cases ha:KC q
   .rfl
   .obtain⟨l1,l3,l7⟩:=ADM ha;have j:Ib ()=some 0:=rfl;simp only[if_true,DN,if_false];by_cases a:q.Kind=1
    .rw[if_pos a,Bb,if_pos (by simpa using a)];exact ACG hR (l1 a).1 (l1 a).2
    rw[if_neg a,Bb,if_neg (by simpa using a)];by_cases H:q.Kind=2
    .rw[if_pos H,Bb,if_pos (by simpa using H),GX G,AB,BJ,AT,j];split<;>rfl
    rw[if_neg H,Bb,if_neg (by simpa using H)];by_cases y:q.Kind=3
    .have hc:=l3 y;rw[if_pos y,Bb,if_pos (by simpa using y),Wr,AB,ew,FE,AB,BN,BN,Bb,Bb,AT,j];by_cases Q:(h.AH.length:Int)<=q.AX
     .rw[if_neg (by rw[B8];omega),if_pos Q]
     .rw[if_pos (by rw[B8];omega),if_neg Q,gw hc (by omega),AB,BJ];cases inB q.A5 1 60<;>simp<;>split<;>rfl
    rw[if_neg y,Bb,if_neg (by simpa using y)];unfold fI;by_cases Z:q.Kind=4\/q.Kind=5
    .rw[if_pos Z];have:(q.Kind==4)=true\/(q.Kind==4)=false/\(q.Kind==5)=true:=by grind
     rcases this with e|⟨e,J⟩
     .rw[e,BP,AT,BP];exact Zc G q.Id
     .rw[e,J,BS,AT,BP];exact Zc G q.Id
    .have e4:(q.Kind==4)=false:=by grind
     have J:(q.Kind==5)=false:=by grind
     rw[if_neg Z,e4,J,BS,AT,BS,Bb];by_cases I:q.Kind=6
     .rw[if_pos (by simpa using I),if_pos I,Bb,AT,j];by_cases c:1000000<=h.Now
      .rw[if_pos (by simp;omega),if_pos c]
      .rw[if_neg (by simp;omega),if_neg c]
     .rw[if_neg (by simpa using I),if_neg I,Bb];by_cases B:q.Kind=7
      .rw[if_pos (by simpa using B),if_pos B,BJ];by_cases E:h.AR.Cr<=q.Id
       .rw[if_pos E,if_pos E]
       .rw[if_neg E,if_neg E];obtain⟨n,hn⟩:=AZ (l7 B);have O:n<h.Ay.length:=by have:=hR.P1;omega
        have L:=Cy.1 hR.E8 _ (BC O);rw[B8]at L;rw[hn,A9 O,AB,Ac,A0,AU O,Option.getD_some];unfold fJ;simp only[Bb,AT,beq_iff_eq,j];by_cases S:h.Ay[n] = -1
        .have:h.Ay[n]<0:=by omega
         by_cases h3:h.Az.length=0<;>simp[S,h3,this]
        .have:¬h.Ay[n]<0:=by omega
         simp[S,this]
      .rw[if_neg (by simpa using B),if_neg B,AT,j]
 .rw[if_neg g,if_neg g]
theorem VS{α:Type}{l:List α}{k:Int}(a:0<=k)(c:k<l.length)(v:α):at? (l.set k.toNat v) k=some v:=by
 grind[A9]
theorem RH.ARm{h:AE}(hR:RH h){k:Int}(c:0<=k)(e:k<h.AH.length):Km (cbn h k).Row=true/\(cbn h k).Row.length<=10:=by
 obtain⟨n,rfl⟩:=AZ c;have a:=hR.cb (i:=n) (by omega);have q:=B2 hR.rules;have j:=a.room;have g:=RB h.AR h.AG n h.Now;rw[a.row];exact⟨zS hR.Hk (by omega),by omega⟩
theorem RH.AGs{h:AE}(hR:RH h){k:Int}(a:0<=k)(c:k<h.AH.length):EU (cbn h k):=hR.fit.Dk _ (UX a c)
theorem ACn{h:AE}(hR:RH h){id:Int}(c:0<=FI h id)(q:(par h id).State=2):Q7 ⟨(par h id).CW,id⟩=true/\(par h id).Id=id:=by
 have a:=hR.one c;have e:=Ed a.okp;have j:=B2 hR.rules;have g:=a.pid
 grind[Q7,B8]
theorem AHG{h:AE}(c:Bf h)(id cabin frm size tier:Int):AEu h id cabin frm size tier=some (Ze h id cabin frm size tier):=by
 unfold AEu eY Ze;rw[GJ c,AB,GY c,AB];simp only[Bb,bne_iff_ne,ne_eq];by_cases a:verdict h ⟨1,id,cabin,frm,size,tier⟩=0
 .rw[if_neg (not_not_intro a),if_neg (not_not_intro a)];obtain⟨hJ,_,_,_⟩:=mR a;have hR:=Fg a;have g:=(ADM (QK a).2).1 rfl;dsimp only at g;obtain⟨H,q,y,G⟩:=XY a;have I:=c.Df;have j:=hR.ARm q y;have ec:at? h.AH cabin=some (cbn h cabin):=Ez q y;have hJl:(MZ h id cabin frm size tier).AH.length=h.AH.length:=by unfold MZ;dsimp only;split<;>simp[Dm,Is,GD,CS]
  have hJr:=hJ.ARm (k:=cabin) q (by rw[hJl];exact y);have e:(cbn (MZ h id cabin frm size tier) cabin).Row=put ltE (EL h.AR (HL h id cabin frm size tier) h.Now).1 (cbn h cabin).Row:=by
   grind[MZ,uQ,cbn,GD,HL,Is,CS]
  rw[e]at hJr;rw[O6 c.B4,AB,M7 (by omega),AB];simp only[ec,AB];have E:=UA (l:=(cbn h cabin).Row) (by omega) (EL h.AR (HL h id cabin frm size tier) h.Now).1;rw[if_pos ⟨j.1,hJr.1⟩]at E;show bd (lh (cbn h cabin).Row (EL h.AR (HL h id cabin frm size tier) h.Now).1) _=_;rw[E,AB];unfold MZ;dsimp only;by_cases B:0<=frm
  .have hX:at? (h.AH.set cabin.toNat ⟨(cbn h cabin).AW,put ltE (EL h.AR (HL h id cabin frm size tier) h.Now).1 (cbn h cabin).Row,(cbn h cabin).Bl⟩) frm=some (cbn (GD ⟨h.AR,h.Now,w64 (h.As+1),Kw h.AG (HL h id cabin frm size tier),h.AH,h.Az,h.Ay⟩ (HL h id cabin frm size tier)) frm):=
    Ez (h:=GD ⟨h.AR,h.Now,w64 (h.As+1),Kw h.AG (HL h id cabin frm size tier),h.AH,h.Az,h.Ay⟩ (HL h id cabin frm size tier)) B (by simp only[GD,CS,List.length_set];exact G)
   rw[if_pos (by omega),if_pos B,hX];simp only[AB,j8,AT,Hi c.todo];rfl
  .rw[if_neg (by omega),if_neg B];simp only[AB,AT,Hi c.todo];rfl
 .rw[if_pos a,if_pos a]
theorem AF0{g:AE}{p:AQ}{id:Int}(c:p.Id=id)(e:-1<=p.BY)(h:p.BY<g.AH.length)(j:g.AG.length<=1048576) :
 (if p.BY = -1 then some (OI g (g.AG.eraseP fun x=>x.Id==id)) else some (OI (CS g p.BY ⟨(l8 (cbn g p.BY).AW p.A5 0 0 0 (-1)).1,(cbn g p.BY).Row,(cbn g p.BY).Bl⟩) (g.AG.eraseP fun x=>x.Id==id)))=some (gone g p):=by
 unfold gone;rw[c];dsimp only;by_cases a:0<=p.BY
 .rw[if_neg (by omega),if_pos a];rfl
 .rw[if_pos (by omega),if_neg a];rfl
theorem yl{h:AE}(e:Bf h)(id:Int):AFA h id=some (OR h id):=by
 unfold AFA OR;rw[GJ e,AB,GY e,AB];simp only[Bb,bne_iff_ne,ne_eq];by_cases E:verdict h ⟨2,id,0,0,0,0⟩=0
 .rw[if_neg (not_not_intro E),if_neg (not_not_intro E)];obtain⟨Q,p0⟩:=TE E;have hR:=Hz.1 Q;have I:=hR.one p0;have c:=I.size;have J:=hR.len;have X:=Ed I.okp;have H:=I.pid;have y:∀g:AE,g.AH.length=h.AH.length->g.AG=h.AG->WT id (par h id) g=some (gone g (par h id),0):=by
   intro g S q;have a:=AF0 (g:=g) (p:=par h id) H (by omega) (by omega) (by rw[q];exact e.B4);unfold WT fT;have B:WS g.AG id=some (g.AG.eraseP fun x=>x.Id==id):=O5 (by rw[q];exact e.B4) id;simp only[Bb,bne_iff_ne,ne_eq,AT];by_cases G:(par h id).BY = -1
   .rw[if_neg (not_not_intro G),B,AB];rw[if_pos G]at a;rw[<-Option.some.inj a];rfl
   .have ef:at? g.AH (par h id).BY=some (cbn g (par h id).BY):=Ez (by omega) (by omega);rw[if_pos G];simp only[ef,AB,MY,B];rw[if_neg G]at a;rw[<-Option.some.inj a];rfl
  have ec:at? h.AH (par h id).AX=some (cbn h (par h id).AX):=Ez c.2.1.1 (by omega);have j:=hR.AGs c.2.1.1 (by omega);simp only[GX e,AB,QS p0,D7,ec,beq_iff_eq,AT];unfold cancelled;dsimp only;by_cases s1:(par h id).State=1
  .rw[if_pos s1,if_neg (by omega),T9 j.1,AB];exact y (TC h (par h id).AX id) (by simp[TC,CS]) rfl
  .have O:(par h id).State=2:=by omega
   have L:=ACn hR p0 O;rw[if_neg s1,if_pos O,O7 j.2 L.1,AB];simp only[VS c.2.1.1 (show (par h id).AX<(h.AH.length:Int) by omega),AB,SY,Hi e.todo,Ea];have:=y (Dm (dropped h (par h id)) (QI (dropped h (par h id)).Az (par h id).AX)) (by simp[Dm,dropped,CS]) rfl;rw[<-this];unfold dropped;rw[L.2];rfl
 .rw[if_pos E,if_pos E]
theorem gl{h:AE}(c:Bf h)(k n:Int):AFB h k n=some (ZR h k n):=by
 unfold AFB ZR;rw[GJ c,AB,GY c,AB];simp only[Bb,bne_iff_ne,ne_eq];by_cases a:verdict h ⟨3,0,k,0,n,0⟩=0
 .rw[if_neg (not_not_intro a),if_neg (not_not_intro a)];obtain⟨j,e,g⟩:=RN a;have ec:at? h.AH k=some (cbn h k):=Ez e g;simp only[ec,AB,SZ,Hi c.todo];rfl
 .rw[if_pos a,if_pos a]
theorem AJr{X:AE}{p:AQ}(a:0<=p.BY)(c:p.BY<X.AH.length):cbn (gone X p) p.BY=⟨(l8 (cbn X p.BY).AW p.A5 0 0 0 (-1)).1,(cbn X p.BY).Row,(cbn X p.BY).Bl⟩:=by
 grind[gone,ID]
theorem yj{h:AE}(g:Bf h)(id:Int):AFD h id=some (OL h id):=by
 unfold AFD OL fW;rw[GJ g,AB,GY g,AB];simp only[Bb,bne_iff_ne,ne_eq];by_cases e:verdict h ⟨4,id,0,0,0,0⟩=0
 .rw[if_neg (not_not_intro e),if_neg (not_not_intro e)];obtain⟨G,p0⟩:=TD e;have hR:=Hz.1 G;have H:=hR.one p0;have c:=H.size;have B:=hR.len;have E:=(TF ((Ff e).2.2.2.1 (.inl rfl))).2;dsimp only at E;have j:=ACn hR p0 E;have ec:at? h.AH (par h id).AX=some (cbn h (par h id).AX):=Ez c.2.1.1 (by omega);have q:=hR.AGs c.2.1.1 (by omega);have y:WS h.AG id=some (h.AG.eraseP fun x=>x.Id==id):=O5 g.B4 id;simp only[GX g,AB,QS p0,D7,ec,gq,VS c.2.1.1 (show (par h id).AX<(h.AH.length:Int) by omega),O7 q.2 j.1,y,Ea,AT];have hXl:(PD h (par h id)).AH.length=h.AH.length:=by simp[PD,CS]
  have hX:(PD h (par h id)).AH=h.AH.set (par h id).AX.toNat ⟨(l8 (cbn h (par h id).AX).AW (par h id).A5 0 (-1) 1 0).1,(cbn h (par h id).AX).Row,(Tz (cbn h (par h id).AX).Bl ⟨(par h id).CW,id⟩).1⟩:=by unfold PD CS;rw[j.2]
  rw[<-hX];unfold accepted;dsimp only;by_cases a:0<=(par h id).BY
  .have ef:at? (PD h (par h id)).AH (par h id).BY=some (cbn (PD h (par h id)) (par h id).BY):=Ez a (by omega);rw[if_pos (by omega),if_pos a,ef];simp only[AB,MY,VS a (show (par h id).BY<((PD h (par h id)).AH.length:Int) by omega),SZ,Hi g.todo,Ea];unfold SO;rw[AJr a (by omega)];unfold gone CS;simp only[if_pos a,Ea,j.2];rfl
  .rw[if_neg (by omega),if_neg a];unfold gone;simp only[if_neg a,j.2];rfl
 .rw[if_pos e,if_pos e]
theorem UD{h:AE}(hR:RH h){id:Int}(p0:0<=FI h id)(Z:(par h id).State=2):xn h id=some (IG h (par h id)):=by
 have y:=hR.fit;have X:=hR.one p0;have E:=X.size;have S:=hR.len;have hs:=y.Df;have H:=ACn hR p0 Z;have c:=E.2.1.1;have a:(par h id).AX<(h.AH.length:Int):=by omega
 have ec:at? h.AH (par h id).AX=some (cbn h (par h id).AX):=Ez c a;have J:=hR.AGs c a;have O:WS h.AG id=some (h.AG.eraseP fun x=>x.Id==id):=O5 y.B4 id;unfold xn fY;simp only[GX y,AB,QS p0,D7,ec,SY,VS c a,O7 J.2 H.1,yr (show h.AR.AW.length<2 ^ 62 by omega),Ea,Bb,AT,O];have hXl:(dropped h (par h id)).AH.length=h.AH.length:=by simp[dropped,CS]
 have hX:(dropped h (par h id)).AH=h.AH.set (par h id).AX.toNat ⟨(l8 (cbn h (par h id).AX).AW (par h id).A5 1 (-1) 0 0).1,(cbn h (par h id).AX).Row,(Tz (cbn h (par h id).AX).Bl ⟨(par h id).CW,id⟩).1⟩:=by unfold dropped CS;rw[H.2]
 have hF:=Wc hR X Z;by_cases q:(D4 h.AR (par h id) h.Now).2=true
 .have j:=ZQ q;have e:IG h (par h id)=GD (OI (dropped h (par h id)) (Kw h.AG (D4 h.AR (par h id) h.Now).1)) (D4 h.AR (par h id) h.Now).1:=by unfold IG;rw[if_pos q]
  have hrowX:cbn (dropped h (par h id)) (par h id).AX=⟨(l8 (cbn h (par h id).AX).AW (par h id).A5 1 (-1) 0 0).1,(cbn h (par h id).AX).Row,(Tz (cbn h (par h id).AX).Bl ⟨(par h id).CW,id⟩).1⟩:=by
   unfold dropped;rw[ID c a c,if_pos rfl,H.2]
  have Q:=hR.ARm c a;have B:=hF.ARm c (by rw[(Qi h _).De];exact a);have e2:(cbn (IG h (par h id)) (par h id).AX).Row=put ltE (EL h.AR (D4 h.AR (par h id) h.Now).1 h.Now).1 (cbn h (par h id).AX).Row:=by
   rw[e];unfold GD;rw[j,ID c (by show (par h id).AX<((dropped h (par h id)).AH.length:Int);omega) c,if_pos rfl];show put ltE _ (cbn (dropped h (par h id)) (par h id).AX).Row=_;rw[hrowX];rfl
  rw[e2]at B;have Y:=UA (l:=(cbn h (par h id).AX).Row) (by omega) (EL h.AR (D4 h.AR (par h id) h.Now).1 h.Now).1;rw[if_pos ⟨Q.1,B.1⟩]at Y;simp only[q,if_true,O6 y.B4,AB,M7 (show h.AR.AW.length<2 ^ 62 by omega),Y];rw[e];unfold GD;rw[j]
  grind[CS,OI,dropped,par,cbn,put,ltE,List.set_set]
 .have I:(D4 h.AR (par h id) h.Now).2=false:=by simpa using q
  have e:IG h (par h id)=gone (dropped h (par h id)) (par h id):=by unfold IG;rw[if_neg q]
  have L:=AF0 (g:=dropped h (par h id)) (p:=par h id) H.2 E.2.2.1.1 (by omega) y.B4;rw[e,<-L];simp only[I,BA,if_false,<-hX,bne_iff_ne,ne_eq];by_cases G:(par h id).BY = -1
  .rw[if_neg (not_not_intro G),if_pos G];rfl
  .have ef:at? (dropped h (par h id)).AH (par h id).BY=some (cbn (dropped h (par h id)) (par h id).BY):=Ez (by omega) (by omega);rw[if_pos G,if_neg G,ef];simp only[AB,MY];rfl
theorem rH{h:AE}(c:Bf h)(id:Int):AFF h id=some (MC h id):=by
 unfold AFF MC;rw[GJ c,AB,GY c,AB];simp only[Bb,bne_iff_ne,ne_eq];by_cases a:verdict h ⟨5,id,0,0,0,0⟩=0
 .rw[if_neg (not_not_intro a),if_neg (not_not_intro a)];obtain⟨g,p0⟩:=Rb a;have hR:=Hz.1 g;have e:=(TF ((Ff a).2.2.2.1 (.inr rfl))).2;dsimp only at e;have hF:=Wc hR (hR.one p0) e;simp only[GX c,AB,QS p0,UD hR p0 e,Hi hF.fit.todo];rfl
 .rw[if_pos a,if_pos a]
theorem AJL{n:Nat}{h x:AE}(H:Sm n h)(J:x.AH.length=h.AH.length)(q:∀c:Int,C2 h.AG c<=19)(Q:n+h.AH.length<=1048576):A7 (WV x) big (0,h)=some (Kr h.AH.length 0 h,0):=by
 generalize a:h.AH.length=len at *;refine(DE (F:=WV x) (n:=len) (fun i (v:AE)=>((i:Int),v)) (fun i v=>Sm (n+i) v/\v.AH.length=len/\v.AG=h.AG) (fun i v=>some (Kr (len-i) i v,0)) (by omega) ?_ (v:=h) ⟨H,a,rfl⟩).trans (by rw[Nat.sub_zero]);intro L i v ⟨G,E,g⟩ hi O;have y:=G.fit (by omega);unfold WV;dsimp only;rw[J];rcases AV i len with j|j
 .have S:=y.Df;have I:=y.B4;rw[Bw j,BP,Qs (by omega) I (by rw[g];exact q _),AB,Ez (by omega) (by omega),AB,AB,Qq (by omega),AB];have e:Kr (len-i) i v=Kr (len-(i+1)) (i+1) (LD v i):=by rw[show len-i=(len-(i+1))+1 by omega];rfl
  rw[e];have B:=O (LD v i) ⟨by have:=jc G i;rw[Nat.add_assoc]at this;exact this,by rw[nQ];exact E,by rw[AAJ.Hk];exact g⟩ j;rw[<-B];unfold fZ LD;simp only[BJ,gt_iff_lt,AT,BX j (show len<2 ^ 63 by omega),Ac,Hi y.todo,AB];split<;>rfl
 .have:i=len:=by omega
  subst this;rw[Cc,BS,AT,Nat.sub_self];rfl
theorem AHL{h:AE}(g:Bf h):AFG h=some (Zu h):=by
 unfold AFG Zu;rw[GJ g,AB,GY g,AB];simp only[Bb,bne_iff_ne,ne_eq];by_cases e:verdict h ⟨6,0,0,0,0,0⟩=0
 .have hR:=Fg e;have a:=hR.sm;have j:=hR.len;have y:=B2 hR.rules;have q:Sm 1000 ⟨h.AR,w64 (h.Now+1),h.As,h.AG,h.AH,h.Az,h.Ay⟩:=⟨a.Df,a.B4,a.De,a.Dk,a.todo,a.E8⟩;rw[if_neg (not_not_intro e),if_neg (not_not_intro e)];exact AJL (x:=h) q rfl (fun c=>by have:=hR.cnt c;show C2 h.AG c<=19;omega) (by show 1000+h.AH.length<=1048576;omega)
 .rw[if_pos e,if_pos e]
theorem rM{w:Aj}(a:Cv w)(now:Int):AFH w now=some ((Ep w).filter fun p=>decide (p.At<=now)):=by
 have hlim:lim=268435456:=rfl;have c:=Js a;unfold AFH;rw[ZZ a,AB,collect (l:=Ep w) (fun p=>if p.At<=now then some p else none) some c ?_ ?_]
 .congr 1;generalize Ep w=l
  induction l<;>grind
 .grind[fh,fc,A9,AB,BJ,AT,Bt]
 grind[fh,xq,BS,AT]
theorem UE{h:AE}(hR:RH h){k:Nat}(c:k<h.AH.length):xp h k=some true:=by
 have a:=hR.len;unfold xp fb;rw[GW hR.fit,Hz.2 hR,AB,BP,Wr,AB,AT,A4 (by omega) (by omega),B8.2 (by omega)]
theorem ACC{h:AE}(hR:RH h){k:Nat}(c:k<h.AH.length):AFI h k=some (gB (cbn h k).Bl h.Now):=by
 have hlim:lim=268435456:=rfl;have a:=(hR.AGs (k:=(k:Int)) (by omega) (by omega)).2;have e:=Js a;unfold AFI;rw[UE hR c,AB,BN,BP,show at? h.AH (k:Int)=some (cbn h k) from Ez (by omega) (by omega),AB,rM a,AB];generalize hD:(Ep (cbn h k).Bl).filter (fun p=>decide (p.At<=h.Now))=D;have hDl:D.length<=1048576:=by rw[<-hD];exact Ar (List.length_filter_le _ _) e
 rw[collect (l:=D) (fun p=>some p.Id) some hDl ?_ ?_]
 .unfold gB;rw[<-hD];congr 1;generalize Ep (cbn h k).Bl=l
  induction l<;>grind
 .grind[fj,BP,A9,AB,Bt]
 grind[fj,xt,BS,AT]
theorem yq{h:AE}(hR:RH h){k:Nat}(g:k<h.AH.length):AFJ h k=some (Wb h k):=by
 obtain⟨hO,E⟩:=SJ hR g;unfold AFJ Wb;rw[GJ hR.fit,AB,ACC hR g,AB];generalize gB (cbn h k).Bl h.Now=D at *;refine(DE (F:=fk D) (n:=D.length) (fun i (v:AE)=>((i:Int),v)) (fun i v=>RH v/\AGn v (D.drop i)) (fun i v=>some (TW (D.drop i) v)) (by omega) ?_ (v:=h) ⟨hR,hO⟩);rintro L i v ⟨j,c⟩ hi y;unfold fk xu;dsimp only;rcases AV i D.length with a|q
 .rw[Dw a]at c ⊢;have e:=c.2 D[i] (List.mem_cons_self ..);obtain⟨s1,B,_⟩:=Ue j c;simp only[Bw a,BP,A9 a,AB,UD j e.1 e.2,BX a (show D.length<2 ^ 63 by omega)];exact y _ ⟨s1,B⟩ a
 .obtain rfl:i=D.length:=by omega
  rw[Cc,BS,AT,List.drop_length];rfl
theorem rO(p:AQ)(now:Int):AFK p now=some (Zm p now):=by
 unfold AFK fq Zm;rw[AT,AT,Cf]
theorem jz{l:List Ae}(a:l.length<=1048576){skip:List Int}(c:skip.length<=1048576)(free:Int):AE2 l free skip=some (atF (yU free skip) l 0):=by
 unfold AE2 AKP;rw[QR (l:=l) (p:=yU free skip) (by omega) ?_ ?_,AB]
 .intro L i h;unfold fu AKO ft yU
  grind[BP,A9,AB,O4,AT,Cf]
 grind[fu,xv,BS,AT]
theorem gm{h:AE}(hR:RH h){k:Nat}(e:k<h.AH.length):AE3 h k=some (EJ h k):=by
 have hlim:lim=268435456:=rfl;have c:=hR.fit;have a:=c.B4;have j:(jI h).length<=1048576:=Ar (List.length_filterMap_le _ _) a;have g:=(hR.AGs (k:=(k:Int)) (by omega) (by omega)).1;unfold AE3;rw[UE hR e,AB,BN,BP,collect (l:=h.AG) (fun p=>if Zm p h.Now=true then some p.Id else none) (fM h k) a ?_ ?_]
 .grind[fM,at?,cbn,AB,jI,jz,UG,EJ,BJ,nq]
 .grind[fN,fL,A9,AB,rO,Bb,AT,Bt]
 grind[fN,BS,AT]
theorem ACD{h:AE}(hR:RH h){k:Nat}(g:k<h.AH.length):AE5 h k=some (if EJ h k=0 then (h,0) else (IK h k (EJ h k),EJ h k)):=by
 have a:=hR.fit;unfold AE5;rw[GJ a,AB,gm hR g,AB,Bb];by_cases c:EJ h k=0
 .grind
 .obtain⟨j,q,y,B,E⟩:=iP hR g c;have e:=hR.AGs (k:=(k:Int)) (by omega) (by omega);have ec:at? h.AH (k:Int)=some (cbn h k):=Ez (by omega) (by omega);rw[if_neg (by simpa using c),if_neg c];simp only[GX a,AB,QS j,D7,ec,gp,VS (show 0<=(k:Int) by omega) (show (k:Int)<(h.AH.length:Int) by omega),T9 e.1,O6 a.B4,Ea,UC e.2];rfl
theorem AI2{h:AE}(hR:RH h){k:Nat}(y:k<h.AH.length):A7 (WR k) big ([],h)=some (OB k 10 h []):=by
 have hlim:lim=268435456:=rfl;refine Ye (F:=WR k) (fun x=>some (OB k (10-x.1.length) x.2 x.1)) (fun x=>RH x.2/\k<x.2.AH.length/\x.1.length+(cbn x.2 k).Row.length<=10) (fun x=>(cbn x.2 k).Row.length) ?_ (x:=([],h)) ⟨hR,y,by have:=au hR y;simpa using this⟩ (by have:=au hR y;show (cbn h k).Row.length<_;omega);rintro L ⟨a,g⟩ ⟨q,c,e⟩ E;dsimp only at q c e E ⊢;unfold WR;dsimp only;rw[ACD q c,AB];by_cases j:EJ g k=0
 .grind[AGX,BP]
 .obtain⟨s1,H⟩:=U0 q c j;have B:=zA j;rw[if_neg j];dsimp only;have G:(EJ g k==0)=false:=by simpa using j
  rw[G,BS,Bt (by simp only[AI,AP];omega),E (a++[EJ g k],IK g k (EJ g k)) ⟨s1,by rw[(Q3 g k _).De];exact c,by simp only[AN,AI,AP];omega⟩ (by dsimp only;omega)];congr 1;rw[show 10-a.length=(10-(a++[EJ g k]).length)+1 by simp only[AN,AI,AP];omega]
  conv=>rhs;unfold OB
  rw[if_neg j]
theorem AHI{h:AE}(hR:RH h){k:Nat}(a:k<h.AH.length):AE6 h k=some (Jh h k):=by
 obtain⟨c,e⟩:=Qh hR (SJ hR a).1;unfold AE6;rw[yq hR a,AB];exact AI2 c (by rw[e.De];exact a)
theorem AHH{h:AE}(q:Bf h)(who:Int):AE7 h who=some (UI h who):=by
 unfold AE7 UI;rw[GJ q,AB,GY q,AB];simp only[Bb,bne_iff_ne,ne_eq,beq_iff_eq];by_cases a:verdict h ⟨7,who,0,0,0,0⟩=0
 .rw[if_neg (not_not_intro a),if_neg (not_not_intro a)];have hR:=Fg a;have G:=hR.len;obtain⟨n,c,e,L⟩:=RO rfl a;dsimp only at e;subst e;have eg:h.Ay.getD n 0=h.Ay[n]:=by rw[A0,AU c];rfl
  have y:=Cy.1 hR.E8 _ (BC c);rw[B8]at y;unfold U2;simp only[A9 c,AB,Ac,eg];by_cases g:h.Ay[n]<0
  .have j:h.Ay[n] = -1:=by omega
   rw[if_pos j,if_pos g];have H:0<h.Az.length:=by
    grind
   have I:h.Az.getD 0 0=h.Az[0]:=by rw[A0,AU H];rfl
   have O:=q.todo;have J:List.take (h.Az.length-Int.toNat 1) (List.drop (Int.toNat 1) h.Az)=h.Az.drop 1:=List.take_of_length_le (by rw[List.length_drop];exact Nat.le_refl _);rw[uC,AU H,AB,AB,Bt ⟨by omega,by omega⟩,I,J];rfl
  .have j:¬h.Ay[n] = -1:=by omega
   rw[if_neg j,if_neg g];obtain⟨k,E,ek⟩:=hR.job c g;obtain⟨s1,Q,S⟩:=U9 hR E;have B:n<(Jh h k).1.Ay.length:=by rw[Q.E8];exact c
   rw[ek,AHI hR E,AB,A9 B,AB,AB];rfl
 .rw[if_pos a,if_pos a]
theorem ARD{h:AE}(a:Bf h)(q:B9):AE8 h q=some (doF h q):=by
 grind[AE8,doF,L0,GJ,GY,AB,AHG,yl,gl,yj,rH,AHL,AHH,Bb,AT]
theorem ACB{h:AE}(q:Bf h){l:List B9}(G:l.length<=1048576):AE9 h l=some (HM l h):=by
 have hlim:lim=268435456:=rfl;unfold AE9;rw[GJ q,AB];refine(DE (F:=fP l) (n:=l.length) (fun i (v:List Ca×AE)=>(v.1,(i:Int),v.2)) (fun i v=>Bf v.2/\v.1.length=i) (fun i v=>some ((HM (l.drop i) v.2).1,v.1++(HM (l.drop i) v.2).2)) (by omega) ?_ (v:=([],h)) ⟨q,rfl⟩).trans ?_
 .rintro L i ⟨a,g⟩ ⟨e,j⟩ hi y;dsimp only at e j y ⊢;unfold fP xk;dsimp only;rcases AV i l.length with c|E
  .have B:=s5 e l[i];rw[Dw c];simp only[Bw c,BP,A9 c,AB,ARD e,BX c (show l.length<2 ^ 63 by omega)];rw[Bt (by simp only[AI,AP];omega)];have:=y (a++[(doF g l[i]).2],(doF g l[i]).1) ⟨B.2.1,by simp[j]⟩ c;dsimp only at this;rw[this];simp only[HM,List.append_assoc,List.singleton_append]
  .grind[BS,AT,HM]
 .simp
end Lv.P
