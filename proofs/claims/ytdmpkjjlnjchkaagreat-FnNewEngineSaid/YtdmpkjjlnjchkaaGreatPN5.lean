/- Plain laws about what the program computes. -/
import Derived.Test.YtdmpkjjlnjchkaaGreatPM5
set_option linter.unusedVariables false
set_option linter.unusedSimpArgs false
set_option linter.unusedSectionVars false
open Bool renaming false_eq_true->BV,true_eq_false->Dq
open Int renaming eq_ofNat_of_zero_le->Ab,toNat_natCast->Ac
open List renaming all_eq_true->DM,getD_eq_getElem?_getD->BW,getElem?_eq_getElem->AW,getElem_mem->Am,length_append->AM,length_cons->AH,length_nil->AN,set_set->DC
open Nat renaming le_trans->Au,lt_or_ge->AT
namespace Lv.P
open Lv Go
theorem AP5{q:BX}(h:LR q=true):(q.Kind=1->0<=q.Aa /\ -1<=q.Bl)/\(q.Kind=3->0<=q.Aa)/\(q.Kind=7->0<=q.Id):=by
 grind[LR,Wk,CY]
theorem AOf{h:AD}(hR:RH h){q:BX}(B:0<=q.Aa)(E:-1<=q.Bl) :
 (bd (AQS q.Aa (↑h.AI.length:Int)) fun y=>
  br (!y)
   (jn (BIJ h q) true)
   (bd (AQR q.Bl (-1) (w64 ((↑h.AI.length:Int)-1))) fun a=>
   br (!a)
    (jn (BIJ h q) true)
    (jn (BIJ h q) (q.Bl==q.Aa))))=some (iw h q):=by
 have e:=hR.fit;have g:=hR.len;have I:=e.CS;have ew:w64 ((h.AI.length:Int)-1)=(h.AI.length:Int)-1:=Ai (by omega) (by omega);have G:∀b,(q.Bl<h.AI.length\/b=true)->BIJ h q b=some (if b=true then 4
  else if inB q.A2 1 h.AO.A2=false then 5
  else if h.AO.CJ<=q.Cj then 6
  else if inB q.Id 1 999=false then 7
  else if 0<=Gi h q.Id then 8
  else if h.AO.Room<=DQ h.AG q.Aa then 9
  else if 0<=q.Bl/\K3 h q.Bl<q.A2 then 10
  else if 1000000<h.Ap then 11 else 0):=by
  intro b j;unfold BIJ AIW A83;cases b with
  |true=>rfl|false=>
   have hF:q.Bl<h.AI.length:=by simpa using j
   have H:0<=q.Bl->AIR h q.Bl=some (K3 h q.Bl):=fun c=>xz c hF
   simp only[BN,Fs,AB,BI,BZ,BV,if_false,ge_iff_le,gt_iff_lt,decide_eq_true_eq,HN e,Vg (show h.AG.length<2 ^ 58 by omega),AR,bne_iff_ne,ne_eq];by_cases c:0<=q.Bl
   .grind[AB]
   .grind
 grind[iv,AB,Fs,BZ,AR,iw,CY]
theorem nc{h:AD}(j:Bp h)(id:Int) :
 (bd (AA6 h id) fun a=>
 br (decide (a<0))
  (some 7)
  (bd (at? h.AG a) fun c=>
  br (c.State != 2)
   (some 13)
   (bd (at? h.AG a) fun e=>
   bd (fV e h.Now) fun g=>
   br g
    (some 14)
    (jn A83 ()))))=some (LW h id):=by
 unfold LW;rw[HN j,AB,BA]
 grind[kC,V3,AB,AZ3,BZ,A83,AR]
theorem HP{h:AD}(G:Bp h)(q:BX):AIV h q=some (verdict h q):=by
 unfold AIV verdict;rw[Fe G,AB,BI,BZ];by_cases g:DR h=true
 .have hR:=IF.1 g;have X:=hR.len;have Y:=hR.now;have ew:w64 ((h.AI.length:Int)-1)=(h.AI.length:Int)-1:=Ai (by omega) (by omega);rw[if_pos g,if_pos g];unfold IL;rw[Fs,AB,BI,BZ];cases inB q.Kind 1 7
  .rfl
  .simp only[if_true,Dq,if_false];rw[xy,AB,BI,BZ];cases ha:LR q
   .rfl
   .obtain⟨l1,l3,l7⟩:=AP5 ha;have j:A83 ()=some 0:=rfl;simp only[if_true,Dq,if_false];by_cases a:q.Kind=1
    .rw[if_pos a,BZ,if_pos (by simpa using a)];exact AOf hR (l1 a).1 (l1 a).2
    rw[if_neg a,BZ,if_neg (by simpa using a)];by_cases H:q.Kind=2
    .rw[if_pos H,BZ,if_pos (by simpa using H),HN G,AB,BA,AR,j];split<;>rfl
    rw[if_neg H,BZ,if_neg (by simpa using H)];by_cases y:q.Kind=3
    .have hc:=l3 y;rw[if_pos y,BZ,if_pos (by simpa using y),iv,AB,ew,Fs,AB,BI,BI,BZ,BZ,AR,j];by_cases Q:(h.AI.length:Int)<=q.Aa
     .rw[if_neg (by rw[CY];omega),if_pos Q]
     .rw[if_pos (by rw[CY];omega),if_neg Q,xz hc (by omega),AB,BA];cases inB q.A2 1 60<;>simp<;>split<;>rfl
    rw[if_neg y,BZ,if_neg (by simpa using y)];unfold BKN;by_cases Z:q.Kind=4\/q.Kind=5
    .rw[if_pos Z];have:(q.Kind==4)=true\/(q.Kind==4)=false/\(q.Kind==5)=true:=by grind
     rcases this with e|⟨e,J⟩
     .rw[e,BH,AR,BH];exact nc G q.Id
     .rw[e,J,BN,AR,BH];exact nc G q.Id
    .have e4:(q.Kind==4)=false:=by grind
     have J:(q.Kind==5)=false:=by grind
     rw[if_neg Z,e4,J,BN,AR,BN,BZ];by_cases I:q.Kind=6
     .rw[if_pos (by simpa using I),if_pos I,BZ,AR,j];by_cases c:1000000<=h.Now
      .rw[if_pos (by simp;omega),if_pos c]
      .rw[if_neg (by simp;omega),if_neg c]
     .rw[if_neg (by simpa using I),if_neg I,BZ];by_cases B:q.Kind=7
      .rw[if_pos (by simpa using B),if_pos B,BA];by_cases E:h.AO.Cs<=q.Id
       .rw[if_pos E,if_pos E]
       .rw[if_neg E,if_neg E];obtain⟨n,hn⟩:=Ab (l7 B);have O:n<h.A8.length:=by have:=hR.Wm;omega
        have L:=DM.1 hR.F4 _ (Am O);rw[CY]at L;rw[hn,A7 O,AB,Ac,BW,AW O,Option.getD_some];unfold BKO;simp only[BZ,AR,beq_iff_eq,j];by_cases S:h.A8[n] = -1
        .have:h.A8[n]<0:=by omega
         by_cases h3:h.BC.length=0<;>simp[S,h3,this]
        .have:¬h.A8[n]<0:=by omega
         simp[S,this]
      .rw[if_neg (by simpa using B),if_neg B,AR,j]
 .rw[if_neg g,if_neg g]
theorem eC{α:Type}{l:List α}{k:Int}(a:0<=k)(c:k<l.length)(v:α):at? (l.set k.toNat v) k=some v:=by
 grind[A7]
theorem RH.Aec{h:AD}(hR:RH h){k:Int}(c:0<=k)(e:k<h.AI.length):MC (cbn h k).Row=true/\(cbn h k).Row.length<=10:=by
 obtain⟨n,rfl⟩:=Ab c;have a:=hR.cb (i:=n) (by omega);have q:=CT hR.rules;have j:=a.room;have g:=V5 h.AO h.AG n h.Now;rw[a.row];exact⟨AMK hR.Ly (by omega),by omega⟩
theorem RH.AUj{h:AD}(hR:RH h){k:Int}(a:0<=k)(c:k<h.AI.length):DI (cbn h k):=hR.fit.De _ (cK a c)
theorem APH{h:AD}(hR:RH h){id:Int}(c:0<=Gi h id)(q:(par h id).State=2):V1 ⟨(par h id).Cf,id⟩=true/\(par h id).Id=id:=by
 have a:=hR.one c;have e:=FM a.okp;have j:=CT hR.rules;have g:=a.pid
 grind[V1,CY]
theorem AVB{h:AD}(c:Bp h)(id cabin frm size tier:Int):AQ2 h id cabin frm size tier=some (yD h id cabin frm size tier):=by
 unfold AQ2 Aq0 yD;rw[HF c,AB,HP c,AB];simp only[BZ,bne_iff_ne,ne_eq];by_cases a:verdict h ⟨1,id,cabin,frm,size,tier⟩=0
 .rw[if_neg (not_not_intro a),if_neg (not_not_intro a)];obtain⟨hJ,_,_,_⟩:=AVM a;have hR:=Hg a;have g:=(AP5 (Uo a).2).1 rfl;dsimp only at g;obtain⟨H,q,y,G⟩:=jv a;have I:=c.Dd;have j:=hR.Aec q y;have ec:at? h.AI cabin=some (cbn h cabin):=Fg q y;have hJl:(Of h id cabin frm size tier).AI.length=h.AI.length:=by unfold Of;dsimp only;split<;>simp[FJ,K6,HC,C7]
  have hJr:=hJ.Aec (k:=cabin) q (by rw[hJl];exact y);have e:(cbn (Of h id cabin frm size tier) cabin).Row=put ltE (Ez h.AO (IN h id cabin frm size tier) h.Now).1 (cbn h cabin).Row:=by
   grind[Of,AX3,cbn,HC,IN,K6,C7]
  rw[e]at hJr;rw[S9 c.CS,AB,PC (by omega),AB];simp only[ec,AB];have E:=bg (l:=(cbn h cabin).Row) (by omega) (Ez h.AO (IN h id cabin frm size tier) h.Now).1;rw[if_pos ⟨j.1,hJr.1⟩]at E;show bd (AQ0 (cbn h cabin).Row (Ez h.AO (IN h id cabin frm size tier) h.Now).1) _=_;rw[E,AB];unfold Of;dsimp only;by_cases B:0<=frm
  .have hX:at? (h.AI.set cabin.toNat ⟨(cbn h cabin).AV,put ltE (Ez h.AO (IN h id cabin frm size tier) h.Now).1 (cbn h cabin).Row,(cbn h cabin).Bw⟩) frm=some (cbn (HC ⟨h.AO,h.Now,w64 (h.Ap+1),MK h.AG (IN h id cabin frm size tier),h.AI,h.BC,h.A8⟩ (IN h id cabin frm size tier)) frm):=
    Fg (h:=HC ⟨h.AO,h.Now,w64 (h.Ap+1),MK h.AG (IN h id cabin frm size tier),h.AI,h.BC,h.A8⟩ (IN h id cabin frm size tier)) B (by simp only[HC,C7,List.length_set];exact G)
   rw[if_pos (by omega),if_pos B,hX];simp only[AB,AAG,AR,Ik c.todo];rfl
  .rw[if_neg (by omega),if_neg B];simp only[AB,AR,Ik c.todo];rfl
 .rw[if_pos a,if_pos a]
theorem ATW{g:AD}{p:AK}{id:Int}(c:p.Id=id)(e:-1<=p.Bl)(h:p.Bl<g.AI.length)(j:g.AG.length<=1048576) :
 (if p.Bl = -1 then some (RC g (g.AG.eraseP fun x=>x.Id==id)) else some (RC (C7 g p.Bl ⟨(l8 (cbn g p.Bl).AV p.A2 0 0 0 (-1)).1,(cbn g p.Bl).Row,(cbn g p.Bl).Bw⟩) (g.AG.eraseP fun x=>x.Id==id)))=some (gone g p):=by
 unfold gone;rw[c];dsimp only;by_cases a:0<=p.Bl
 .rw[if_neg (by omega),if_pos a];rfl
 .rw[if_pos (by omega),if_neg a];rfl
theorem ALg{h:AD}(e:Bp h)(id:Int):AA3 h id=some (Uz h id):=by
 unfold AA3 Uz;rw[HF e,AB,HP e,AB];simp only[BZ,bne_iff_ne,ne_eq];by_cases E:verdict h ⟨2,id,0,0,0,0⟩=0
 .rw[if_neg (not_not_intro E),if_neg (not_not_intro E)];obtain⟨Q,p0⟩:=aD E;have hR:=IF.1 Q;have I:=hR.one p0;have c:=I.size;have J:=hR.len;have X:=FM I.okp;have H:=I.pid;have y:∀g:AD,g.AI.length=h.AI.length->g.AG=h.AG->ArZ id (par h id) g=some (gone g (par h id),0):=by
   intro g S q;have a:=ATW (g:=g) (p:=par h id) H (by omega) (by omega) (by rw[q];exact e.CS);unfold ArZ AID;have B:AQv g.AG id=some (g.AG.eraseP fun x=>x.Id==id):=S8 (by rw[q];exact e.CS) id;simp only[BZ,bne_iff_ne,ne_eq,AR];by_cases G:(par h id).Bl = -1
   .rw[if_neg (not_not_intro G),B,AB];rw[if_pos G]at a;rw[<-Option.some.inj a];rfl
   .have ef:at? g.AI (par h id).Bl=some (cbn g (par h id).Bl):=Fg (by omega) (by omega);rw[if_pos G];simp only[ef,AB,Oe,B];rw[if_neg G]at a;rw[<-Option.some.inj a];rfl
  have ec:at? h.AI (par h id).Aa=some (cbn h (par h id).Aa):=Fg c.2.1.1 (by omega);have j:=hR.AUj c.2.1.1 (by omega);simp only[HN e,AB,Ux p0,Ej,ec,beq_iff_eq,AR];unfold cancelled;dsimp only;by_cases s1:(par h id).State=1
  .rw[if_pos s1,if_neg (by omega),bf j.1,AB];exact y (zk h (par h id).Aa id) (by simp[zk,C7]) rfl
  .have O:(par h id).State=2:=by omega
   have L:=APH hR p0 O;rw[if_neg s1,if_pos O,TC j.2 L.1,AB];simp only[eC c.2.1.1 (show (par h id).Aa<(h.AI.length:Int) by omega),AB,ZQ,Ik e.todo,DC];have:=y (FJ (dropped h (par h id)) (Wo (dropped h (par h id)).BC (par h id).Aa)) (by simp[FJ,dropped,C7]) rfl;rw[<-this];unfold dropped;rw[L.2];rfl
 .rw[if_pos E,if_pos E]
theorem xn{h:AD}(c:Bp h)(k n:Int):AQx h k n=some (xB h k n):=by
 unfold AQx xB;rw[HF c,AB,HP c,AB];simp only[BZ,bne_iff_ne,ne_eq];by_cases a:verdict h ⟨3,0,k,0,n,0⟩=0
 .rw[if_neg (not_not_intro a),if_neg (not_not_intro a)];obtain⟨j,e,g⟩:=ju a;have ec:at? h.AI k=some (cbn h k):=Fg e g;simp only[ec,AB,ZR,Ik c.todo];rfl
 .rw[if_pos a,if_pos a]
theorem AX2{X:AD}{p:AK}(a:0<=p.Bl)(c:p.Bl<X.AI.length):cbn (gone X p) p.Bl=⟨(l8 (cbn X p.Bl).AV p.A2 0 0 0 (-1)).1,(cbn X p.Bl).Row,(cbn X p.Bl).Bw⟩:=by
 grind[gone,LZ]
theorem ALe{h:AD}(g:Bp h)(id:Int):nG h id=some (Uu h id):=by
 unfold nG Uu A3G;rw[HF g,AB,HP g,AB];simp only[BZ,bne_iff_ne,ne_eq];by_cases e:verdict h ⟨4,id,0,0,0,0⟩=0
 .rw[if_neg (not_not_intro e),if_neg (not_not_intro e)];obtain⟨G,p0⟩:=aC e;have hR:=IF.1 G;have H:=hR.one p0;have c:=H.size;have B:=hR.len;have E:=(AAZ ((TO e).2.2.2.1 (.inl rfl))).2;dsimp only at E;have j:=APH hR p0 E;have ec:at? h.AI (par h id).Aa=some (cbn h (par h id).Aa):=Fg c.2.1.1 (by omega);have q:=hR.AUj c.2.1.1 (by omega);have y:AQv h.AG id=some (h.AG.eraseP fun x=>x.Id==id):=S8 g.CS id;simp only[HN g,AB,Ux p0,Ej,ec,xx,eC c.2.1.1 (show (par h id).Aa<(h.AI.length:Int) by omega),TC q.2 j.1,y,DC,AR];have hXl:(jc h (par h id)).AI.length=h.AI.length:=by simp[jc,C7]
  have hX:(jc h (par h id)).AI=h.AI.set (par h id).Aa.toNat ⟨(l8 (cbn h (par h id).Aa).AV (par h id).A2 0 (-1) 1 0).1,(cbn h (par h id).Aa).Row,(bM (cbn h (par h id).Aa).Bw ⟨(par h id).Cf,id⟩).1⟩:=by unfold jc C7;rw[j.2]
  rw[<-hX];unfold accepted;dsimp only;by_cases a:0<=(par h id).Bl
  .have ef:at? (jc h (par h id)).AI (par h id).Bl=some (cbn (jc h (par h id)) (par h id).Bl):=Fg a (by omega);rw[if_pos (by omega),if_pos a,ef];simp only[AB,Oe,eC a (show (par h id).Bl<((jc h (par h id)).AI.length:Int) by omega),ZR,Ik g.todo,DC];unfold bY;rw[AX2 a (by omega)];unfold gone C7;simp only[if_pos a,DC,j.2];rfl
  .rw[if_neg (by omega),if_neg a];unfold gone;simp only[if_neg a,j.2];rfl
 .rw[if_pos e,if_pos e]
theorem bk{h:AD}(hR:RH h){id:Int}(p0:0<=Gi h id)(Z:(par h id).State=2):ARC h id=some (JH h (par h id)):=by
 have y:=hR.fit;have X:=hR.one p0;have E:=X.size;have S:=hR.len;have hs:=y.Dd;have H:=APH hR p0 Z;have c:=E.2.1.1;have a:(par h id).Aa<(h.AI.length:Int):=by omega
 have ec:at? h.AI (par h id).Aa=some (cbn h (par h id).Aa):=Fg c a;have J:=hR.AUj c a;have O:AQv h.AG id=some (h.AG.eraseP fun x=>x.Id==id):=S8 y.CS id;unfold ARC Air;simp only[HN y,AB,Ux p0,Ej,ec,ZQ,eC c a,TC J.2 H.1,ALj (show h.AO.AV.length<2 ^ 62 by omega),DC,BZ,AR,O];have hXl:(dropped h (par h id)).AI.length=h.AI.length:=by simp[dropped,C7]
 have hX:(dropped h (par h id)).AI=h.AI.set (par h id).Aa.toNat ⟨(l8 (cbn h (par h id).Aa).AV (par h id).A2 1 (-1) 0 0).1,(cbn h (par h id).Aa).Row,(bM (cbn h (par h id).Aa).Bw ⟨(par h id).Cf,id⟩).1⟩:=by unfold dropped C7;rw[H.2]
 have hF:=w5 hR X Z;by_cases q:(Eg h.AO (par h id) h.Now).2=true
 .have j:=nR q;have e:JH h (par h id)=HC (RC (dropped h (par h id)) (MK h.AG (Eg h.AO (par h id) h.Now).1)) (Eg h.AO (par h id) h.Now).1:=by unfold JH;rw[if_pos q]
  have hrowX:cbn (dropped h (par h id)) (par h id).Aa=⟨(l8 (cbn h (par h id).Aa).AV (par h id).A2 1 (-1) 0 0).1,(cbn h (par h id).Aa).Row,(bM (cbn h (par h id).Aa).Bw ⟨(par h id).Cf,id⟩).1⟩:=by
   unfold dropped;rw[LZ c a c,if_pos rfl,H.2]
  have Q:=hR.Aec c a;have B:=hF.Aec c (by rw[(w6 h _).EG];exact a);have e2:(cbn (JH h (par h id)) (par h id).Aa).Row=put ltE (Ez h.AO (Eg h.AO (par h id) h.Now).1 h.Now).1 (cbn h (par h id).Aa).Row:=by
   rw[e];unfold HC;rw[j,LZ c (by show (par h id).Aa<((dropped h (par h id)).AI.length:Int);omega) c,if_pos rfl];show put ltE _ (cbn (dropped h (par h id)) (par h id).Aa).Row=_;rw[hrowX];rfl
  rw[e2]at B;have Y:=bg (l:=(cbn h (par h id).Aa).Row) (by omega) (Ez h.AO (Eg h.AO (par h id) h.Now).1 h.Now).1;rw[if_pos ⟨Q.1,B.1⟩]at Y;simp only[q,if_true,S9 y.CS,AB,PC (show h.AO.AV.length<2 ^ 62 by omega),Y];rw[e];unfold HC;rw[j]
  grind[C7,RC,dropped,par,cbn,put,ltE,List.set_set]
 .have I:(Eg h.AO (par h id) h.Now).2=false:=by simpa using q
  have e:JH h (par h id)=gone (dropped h (par h id)) (par h id):=by unfold JH;rw[if_neg q]
  have L:=ATW (g:=dropped h (par h id)) (p:=par h id) H.2 E.2.2.1.1 (by omega) y.CS;rw[e,<-L];simp only[I,BV,if_false,<-hX,bne_iff_ne,ne_eq];by_cases G:(par h id).Bl = -1
  .rw[if_neg (not_not_intro G),if_pos G];rfl
  .have ef:at? (dropped h (par h id)).AI (par h id).Bl=some (cbn (dropped h (par h id)) (par h id).Bl):=Fg (by omega) (by omega);rw[if_pos G,if_neg G,ef];simp only[AB,Oe];rfl
theorem AEr{h:AD}(c:Bp h)(id:Int):ABB h id=some (P1 h id):=by
 unfold ABB P1;rw[HF c,AB,HP c,AB];simp only[BZ,bne_iff_ne,ne_eq];by_cases a:verdict h ⟨5,id,0,0,0,0⟩=0
 .rw[if_neg (not_not_intro a),if_neg (not_not_intro a)];obtain⟨g,p0⟩:=We a;have hR:=IF.1 g;have e:=(AAZ ((TO a).2.2.2.1 (.inr rfl))).2;dsimp only at e;have hF:=w5 hR (hR.one p0) e;simp only[HN c,AB,Ux p0,bk hR p0 e,Ik hF.fit.todo];rfl
 .rw[if_pos a,if_pos a]
theorem AXR{n:Nat}{h x:AD}(H:Sm n h)(J:x.AI.length=h.AI.length)(q:∀c:Int,DQ h.AG c<=19)(Q:n+h.AI.length<=1048576):A4 (A3H x) big (0,h)=some (Ro h.AI.length 0 h,0):=by
 generalize a:h.AI.length=len at *;refine(C6 (F:=A3H x) (n:=len) (fun i (v:AD)=>((i:Int),v)) (fun i v=>Sm (n+i) v/\v.AI.length=len/\v.AG=h.AG) (fun i v=>some (Ro (len-i) i v,0)) (by omega) ?_ (v:=h) ⟨H,a,rfl⟩).trans (by rw[Nat.sub_zero]);intro L i v ⟨G,E,g⟩ hi O;have y:=G.fit (by omega);unfold A3H;dsimp only;rw[J];rcases AT i len with j|j
 .have S:=y.Dd;have I:=y.CS;rw[CC j,BH,Vj (by omega) I (by rw[g];exact q _),AB,Fg (by omega) (by omega),AB,AB,Vg (by omega),AB];have e:Ro (len-i) i v=Ro (len-(i+1)) (i+1) (Ul v i):=by rw[show len-i=(len-(i+1))+1 by omega];rfl
  rw[e];have B:=O (Ul v i) ⟨by have:=zg G i;rw[Nat.add_assoc]at this;exact this,by rw[ADI];exact E,by rw[Acg.Ly];exact g⟩ j;rw[<-B];unfold Aj1 Ul;simp only[BA,gt_iff_lt,AR,BU j (show len<2 ^ 63 by omega),Ac,Ik y.todo,AB];split<;>rfl
 .have:i=len:=by omega
  subst this;rw[Cp,BN,AR,Nat.sub_self];rfl
theorem AVH{h:AD}(g:Bp h):AYO h=some (zh h):=by
 unfold AYO zh;rw[HF g,AB,HP g,AB];simp only[BZ,bne_iff_ne,ne_eq];by_cases e:verdict h ⟨6,0,0,0,0,0⟩=0
 .have hR:=Hg e;have a:=hR.sm;have j:=hR.len;have y:=CT hR.rules;have q:Sm 1000 ⟨h.AO,w64 (h.Now+1),h.Ap,h.AG,h.AI,h.BC,h.A8⟩:=⟨a.Dd,a.CS,a.EG,a.De,a.todo,a.F4⟩;rw[if_neg (not_not_intro e),if_neg (not_not_intro e)];exact AXR (x:=h) q rfl (fun c=>by have:=hR.cnt c;show DQ h.AG c<=19;omega) (by show 1000+h.AI.length<=1048576;omega)
 .rw[if_pos e,if_pos e]
theorem AEx{w:An}(a:C1 w)(now:Int):ARE w now=some ((Eo w).filter fun p=>decide (p.At<=now)):=by
 have hlim:lim=268435456:=rfl;have c:=Io a;unfold ARE;rw[RZ a,AB,collect (l:=Eo w) (fun p=>if p.At<=now then some p else none) some c ?_ ?_]
 .congr 1;generalize Eo w=l
  induction l<;>grind
 .grind[sd,AJI,A7,AB,BA,AR,B9]
 grind[sd,BKi,BN,AR]
theorem bm{h:AD}(hR:RH h){k:Nat}(c:k<h.AI.length):ARD h k=some true:=by
 have a:=hR.len;unfold ARD A9g;rw[Fe hR.fit,IF.2 hR,AB,BH,iv,AB,AR,Ai (by omega) (by omega),CY.2 (by omega)]
theorem AOb{h:AD}(hR:RH h){k:Nat}(c:k<h.AI.length):ARF h k=some (wg (cbn h k).Bw h.Now):=by
 have hlim:lim=268435456:=rfl;have a:=(hR.AUj (k:=(k:Int)) (by omega) (by omega)).2;have e:=Io a;unfold ARF;rw[bm hR c,AB,BI,BH,show at? h.AI (k:Int)=some (cbn h k) from Fg (by omega) (by omega),AB,AEx a,AB];generalize hD:(Eo (cbn h k).Bw).filter (fun p=>decide (p.At<=h.Now))=D;have hDl:D.length<=1048576:=by rw[<-hD];exact Au (List.length_filter_le _ _) e
 rw[collect (l:=D) (fun p=>some p.Id) some hDl ?_ ?_]
 .unfold wg;rw[<-hD];congr 1;generalize Eo (cbn h k).Bw=l
  induction l<;>grind
 .grind[se,BH,A7,AB,B9]
 grind[se,AJJ,BN,AR]
theorem ALi{h:AD}(hR:RH h){k:Nat}(g:k<h.AI.length):ARG h k=some (iS h k):=by
 obtain⟨hO,E⟩:=Xc hR g;unfold ARG iS;rw[HF hR.fit,AB,AOb hR g,AB];generalize wg (cbn h k).Bw h.Now=D at *;refine(C6 (F:=sg D) (n:=D.length) (fun i (v:AD)=>((i:Int),v)) (fun i v=>RH v/\AUe v (D.drop i)) (fun i v=>some (aQ (D.drop i) v)) (by omega) ?_ (v:=h) ⟨hR,hO⟩);rintro L i v ⟨j,c⟩ hi y;unfold sg AJK;dsimp only;rcases AT i D.length with a|q
 .rw[DW a]at c ⊢;have e:=c.2 D[i] (List.mem_cons_self ..);obtain⟨s1,B,_⟩:=cU j c;simp only[CC a,BH,A7 a,AB,bk j e.1 e.2,BU a (show D.length<2 ^ 63 by omega)];exact y _ ⟨s1,B⟩ a
 .obtain rfl:i=D.length:=by omega
  rw[Cp,BN,AR,List.drop_length];rfl
theorem AE0(p:AK)(now:Int):ARH p now=some (nw p now):=by
 unfold ARH A3I nw;rw[AR,AR,Cv]
theorem AAE{l:List Ad}(a:l.length<=1048576){skip:List Int}(c:skip.length<=1048576)(free:Int):sk l free skip=some (atF (ALS free skip) l 0):=by
 unfold sk ARI;rw[Uw (l:=l) (p:=ALS free skip) (by omega) ?_ ?_,AB]
 .intro L i h;unfold sj ABC A9h ALS
  grind[BH,A7,AB,S7,AR,Cv]
 grind[sj,AJM,BN,AR]
theorem xp{h:AD}(hR:RH h){k:Nat}(e:k<h.AI.length):su h k=some (Ew h k):=by
 have hlim:lim=268435456:=rfl;have c:=hR.fit;have a:=c.CS;have j:(zJ h).length<=1048576:=Au (List.length_filterMap_le _ _) a;have g:=(hR.AUj (k:=(k:Int)) (by omega) (by omega)).1;unfold su;rw[bm hR e,AB,BI,BH,collect (l:=h.AG) (fun p=>if nw p h.Now=true then some p.Id else none) (BKY h k) a ?_ ?_]
 .grind[BKY,at?,cbn,AB,zJ,AAE,bq,Ew,BA,ADb]
 .grind[AtT,Awc,A7,AB,AE0,BZ,AR,B9]
 grind[AtT,BN,AR]
theorem AOc{h:AD}(hR:RH h){k:Nat}(g:k<h.AI.length):ARL h k=some (if Ew h k=0 then (h,0) else (JL h k (Ew h k),Ew h k)):=by
 have a:=hR.fit;unfold ARL;rw[HF a,AB,xp hR g,AB,BZ];by_cases c:Ew h k=0
 .grind
 .obtain⟨j,q,y,B,E⟩:=yZ hR g c;have e:=hR.AUj (k:=(k:Int)) (by omega) (by omega);have ec:at? h.AI (k:Int)=some (cbn h k):=Fg (by omega) (by omega);rw[if_neg (by simpa using c),if_neg c];simp only[HN a,AB,Ux j,Ej,ec,xw,eC (show 0<=(k:Int) by omega) (show (k:Int)<(h.AI.length:Int) by omega),bf e.1,S9 a.CS,DC,bj e.2];rfl
theorem AW0{h:AD}(hR:RH h){k:Nat}(y:k<h.AI.length):A4 (BJt k) big ([],h)=some (Q3 k 10 h []):=by
 have hlim:lim=268435456:=rfl;refine mJ (F:=BJt k) (fun x=>some (Q3 k (10-x.1.length) x.2 x.1)) (fun x=>RH x.2/\k<x.2.AI.length/\x.1.length+(cbn x.2 k).Row.length<=10) (fun x=>(cbn x.2 k).Row.length) ?_ (x:=([],h)) ⟨hR,y,by have:=pJ hR y;simpa using this⟩ (by have:=pJ hR y;show (cbn h k).Row.length<_;omega);rintro L ⟨a,g⟩ ⟨q,c,e⟩ E;dsimp only at q c e E ⊢;unfold BJt;dsimp only;rw[AOc q c,AB];by_cases j:Ew g k=0
 .grind[AUJ,BH]
 .obtain⟨s1,H⟩:=dS q c j;have B:=AL3 j;rw[if_neg j];dsimp only;have G:(Ew g k==0)=false:=by simpa using j
  rw[G,BN,B9 (by simp only[AH,AN];omega),E (a++[Ew g k],JL g k (Ew g k)) ⟨s1,by rw[(Vw g k _).EG];exact c,by simp only[AM,AH,AN];omega⟩ (by dsimp only;omega)];congr 1;rw[show 10-a.length=(10-(a++[Ew g k]).length)+1 by simp only[AM,AH,AN];omega]
  conv=>rhs;unfold Q3
  rw[if_neg j]
theorem AVE{h:AD}(hR:RH h){k:Nat}(a:k<h.AI.length):Px h k=some (Kk h k):=by
 obtain⟨c,e⟩:=U7 hR (Xc hR a).1;unfold Px;rw[ALi hR a,AB];exact AW0 c (by rw[e.EG];exact a)
theorem AVD{h:AD}(q:Bp h)(who:Int):nH h who=some (jH h who):=by
 unfold nH jH;rw[HF q,AB,HP q,AB];simp only[BZ,bne_iff_ne,ne_eq,beq_iff_eq];by_cases a:verdict h ⟨7,who,0,0,0,0⟩=0
 .rw[if_neg (not_not_intro a),if_neg (not_not_intro a)];have hR:=Hg a;have G:=hR.len;obtain⟨n,c,e,L⟩:=jw rfl a;dsimp only at e;subst e;have eg:h.A8.getD n 0=h.A8[n]:=by rw[BW,AW c];rfl
  have y:=DM.1 hR.F4 _ (Am c);rw[CY]at y;unfold AFp;simp only[A7 c,AB,Ac,eg];by_cases g:h.A8[n]<0
  .have j:h.A8[n] = -1:=by omega
   rw[if_pos j,if_pos g];have H:0<h.BC.length:=by
    grind
   have I:h.BC.getD 0 0=h.BC[0]:=by rw[BW,AW H];rfl
   have O:=q.todo;have J:List.take (h.BC.length-Int.toNat 1) (List.drop (Int.toNat 1) h.BC)=h.BC.drop 1:=List.take_of_length_le (by rw[List.length_drop];exact Nat.le_refl _);rw[eE,AW H,AB,AB,B9 ⟨by omega,by omega⟩,I,J];rfl
  .have j:¬h.A8[n] = -1:=by omega
   rw[if_neg j,if_neg g];obtain⟨k,E,ek⟩:=hR.job c g;obtain⟨s1,Q,S⟩:=zF hR E;have B:n<(Kk h k).1.A8.length:=by rw[Q.F4];exact c
   rw[ek,AVE hR E,AB,A7 B,AB,AB];rfl
 .rw[if_pos a,if_pos a]
theorem Ad3{h:AD}(a:Bp h)(q:BX):AJS h q=some (doF h q):=by
 grind[AJS,doF,A3O,HF,HP,AB,AVB,ALg,xn,ALe,AEr,AVH,AVD,BZ,AR]
theorem Vh{h:AD}(q:Bp h){l:List BX}(G:l.length<=1048576):ABb h l=some (JZ l h):=by
 have hlim:lim=268435456:=rfl;unfold ABb;rw[HF q,AB];refine(C6 (F:=BKZ l) (n:=l.length) (fun i (v:List CE×AD)=>(v.1,(i:Int),v.2)) (fun i v=>Bp v.2/\v.1.length=i) (fun i v=>some ((JZ (l.drop i) v.2).1,v.1++(JZ (l.drop i) v.2).2)) (by omega) ?_ (v:=([],h)) ⟨q,rfl⟩).trans ?_
 .rintro L i ⟨a,g⟩ ⟨e,j⟩ hi y;dsimp only at e j y ⊢;unfold BKZ BKj;dsimp only;rcases AT i l.length with c|E
  .have B:=AGC e l[i];rw[DW c];simp only[CC c,BH,A7 c,AB,Ad3 e,BU c (show l.length<2 ^ 63 by omega)];rw[B9 (by simp only[AH,AN];omega)];have:=y (a++[(doF g l[i]).2],(doF g l[i]).1) ⟨B.2.1,by simp[j]⟩ c;dsimp only at this;rw[this];simp only[JZ,List.append_assoc,List.singleton_append]
  .grind[BN,AR,JZ]
 .simp
end Lv.P
