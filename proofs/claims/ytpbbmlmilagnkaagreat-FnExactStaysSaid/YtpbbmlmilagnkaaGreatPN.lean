/-
  Plain laws: what the program says to a request; its joins, cancels, freed seats, accepts.
-/
import Derived.Test.YtpbbmlmilagnkaaGreatPM
set_option linter.unusedVariables false
set_option linter.unusedSimpArgs false
set_option linter.unusedSectionVars false
open Bool renaming false_eq_true->A4,true_eq_false->C0
open Int renaming eq_ofNat_of_zero_le->Bb,toNat_natCast->AX
open List renaming all_eq_true->B9,getD_eq_getElem?_getD->A6,getElem?_eq_getElem->AU,getElem_mem->Am,length_append->BM,length_cons->Ao,length_nil->Ad,set_set->CZ
open Nat renaming le_trans->A9,lt_or_ge->Aj
namespace Lv.P
open Lv Go
theorem ADQ{q:Bw}(h:Jp q=true):(q.Kind=1->0<=q.AT /\ -1<=q.BQ)/\(q.Kind=3->0<=q.AT)/\(q.Kind=7->0<=q.Id):=by
 grind[Jp,Oq,CI]
theorem ABz{h:AE}(hR:RH h){q:Bw}(h1:0<=q.AT)(h2:-1<=q.BQ) :
 (bd (Mi q.AT (↑h.AH.length:Int)) fun x4=>
  br (!x4)
   (jn (Jd h q) true)
   (bd (Ck q.BQ (-1) (w64 ((↑h.AH.length:Int)-1))) fun x12=>
   br (!x12)
    (jn (Jd h q) true)
    (jn (Jd h q) (q.BQ==q.AT))))=some (UM h q):=by
 have hf:=hR.fit;have hlen:=hR.len;have hp:=hf.Bv;have ew:w64 ((h.AH.length:Int)-1)=(h.AH.length:Int)-1:=BP (by omega) (by omega);have hj:∀b,(q.BQ<h.AH.length\/b=true)->Jd h q b=some (if b=true then 4
  else if inB q.A1 1 h.AO.A1=false then 5
  else if h.AO.Cg<=q.CT then 6
  else if inB q.Id 1 999=false then 7
  else if 0<=Ep h q.Id then 8
  else if h.AO.Room<=Cr h.AG q.AT then 9
  else if 0<=q.BQ/\HE h q.BQ<q.A1 then 10
  else if 1000000<h.Ai then 11 else 0):=by
  intro b hb;unfold Jd bW HA;cases b with
  |true=>rfl|false=>
   have hF:q.BQ<h.AH.length:=by simpa using hb
   have hl:0<=q.BQ->kg h q.BQ=some (HE h q.BQ):=fun h0=>eS h0 hF
   simp only[BV,Fe,AF,BI,B5,A4,if_false,ge_iff_le,gt_iff_lt,decide_eq_true_eq,FY hf,N2 (show h.AG.length<2 ^ 58 by omega),AW,bne_iff_ne,ne_eq];by_cases h0:0<=q.BQ
   .grind[AF,grind]
   .grind[grind]
 grind[XR,AF,Fe,BI,B5,AW,UM,CI]
theorem XP{h:AE}(hf:Ba h)(id:Int) :
 (bd (KC h id) fun x18=>
 br (decide (x18<0))
  (some 7)
  (bd (at? h.AG x18) fun x19=>
  br (x19.State != 2)
   (some 13)
   (bd (at? h.AG x18) fun x20=>
   bd (vn x20 h.Now) fun x21=>
   br x21
    (some 14)
    (jn HA ()))))=some (Ib h id):=by
 unfold Ib;rw[FY hf,AF,Bl]
 grind[Ep,grind,VJ,OL,AF,ANI,B5,HA,AW,fW,bne_self_eq_false,Bool.false_eq_true,not_true_eq_false]
theorem FZ{h:AE}(hf:Ba h)(q:Bw):PG h q=some (verdict h q):=by
 unfold PG verdict;rw[Io hf,AF,BI,B5];by_cases hb:EC h=true
 .have hR:=GB.1 hb;have hlen:=hR.len;have hnow:=hR.now;have ew:w64 ((h.AH.length:Int)-1)=(h.AH.length:Int)-1:=BP (by omega) (by omega);rw[if_pos hb,if_pos hb];unfold GK;rw[Fe,AF,BI,B5];cases inB q.Kind 1 7
  .rfl
  .simp only[if_true,C0,if_false];rw[xV,AF,BI,B5];cases ha:Jp q
   .rfl
   .obtain⟨l1,l3,l7⟩:=ADQ ha;have hz:HA ()=some 0:=rfl;simp only[if_true,C0,if_false];by_cases k1:q.Kind=1
    .rw[if_pos k1,B5,if_pos (by simpa using k1)];exact ABz hR (l1 k1).1 (l1 k1).2
    rw[if_neg k1,B5,if_neg (by simpa using k1)];by_cases k2:q.Kind=2
    .rw[if_pos k2,B5,if_pos (by simpa using k2),FY hf,AF,Bl,AW,hz];split<;>rfl
    rw[if_neg k2,B5,if_neg (by simpa using k2)];by_cases k3:q.Kind=3
    .have hc:=l3 k3;rw[if_pos k3,B5,if_pos (by simpa using k3),XR,AF,ew,Fe,AF,BI,BI,B5,B5,AW,hz];by_cases c1:(h.AH.length:Int)<=q.AT
     .rw[if_neg (by rw[CI];omega),if_pos c1]
     .rw[if_pos (by rw[CI];omega),if_neg c1,eS hc (by omega),AF,Bl];cases inB q.A1 1 60<;>simp<;>split<;>rfl
    rw[if_neg k3,B5,if_neg (by simpa using k3)];unfold bX;by_cases k4:q.Kind=4\/q.Kind=5
    .rw[if_pos k4];have:(q.Kind==4)=true\/(q.Kind==4)=false/\(q.Kind==5)=true:=by grind
     rcases this with e|⟨e,e5⟩
     .rw[e,BW,AW,BW];exact XP hf q.Id
     .rw[e,e5,BV,AW,BW];exact XP hf q.Id
    .have e4:(q.Kind==4)=false:=by grind
     have e5:(q.Kind==5)=false:=by grind
     rw[if_neg k4,e4,e5,BV,AW,BV,B5];by_cases k6:q.Kind=6
     .rw[if_pos (by simpa using k6),if_pos k6,B5,AW,hz];by_cases c:1000000<=h.Now
      .rw[if_pos (by simp;omega),if_pos c]
      .rw[if_neg (by simp;omega),if_neg c]
     .rw[if_neg (by simpa using k6),if_neg k6,B5];by_cases k7:q.Kind=7
      .rw[if_pos (by simpa using k7),if_pos k7,Bl];by_cases h1:h.AO.Cu<=q.Id
       .rw[if_pos h1,if_pos h1]
       .rw[if_neg h1,if_neg h1];obtain⟨n,hn⟩:=Bb (l7 k7);have hl:n<h.Ay.length:=by have:=hR.Qq;omega
        have hjb:=B9.1 hR.FL _ (Am hl);rw[CI]at hjb;rw[hn,A5 hl,AF,AX,A6,AU hl,Option.getD_some];unfold bY;simp only[B5,AW,beq_iff_eq,hz];by_cases h2:h.Ay[n] = -1
        .have:h.Ay[n]<0:=by omega
         by_cases h3:h.A0.length=0<;>simp[h2,h3,this]
        .have:¬h.Ay[n]<0:=by omega
         simp[h2,this]
      .rw[if_neg (by simpa using k7),if_neg k7,AW,hz]
 .rw[if_neg hb,if_neg hb]
end Lv.P
namespace Lv.P
open Lv Go
theorem SW{α:Type}{l:List α}{k:Int}(h0:0<=k)(h1:k<l.length)(v:α):at? (l.set k.toNat v) k=some v:=by
 grind[Int.eq_ofNat_of_zero_le,A5,List.length_set]
theorem RH.ARL{h:AE}(hR:RH h){k:Int}(h0:0<=k)(h1:k<h.AH.length):ID (cbn h k).Row=true/\(cbn h k).Row.length<=10:=by
 obtain⟨n,rfl⟩:=Bb h0;have hc:=hR.cb (i:=n) (by omega);have hr:=Cb hR.rules;have hq:=hc.room;have hl:=ON h.AO h.AG n h.Now;rw[hc.row];exact⟨yF hR.IX (by omega),by omega⟩
theorem RH.AG6{h:AE}(hR:RH h){k:Int}(h0:0<=k)(h1:k<h.AH.length):Da (cbn h k):=hR.fit.C4 _ (RO h0 h1)
theorem ACn{h:AE}(hR:RH h){id:Int}(h0:0<=Ep h id)(s2:(par h id).State=2):OI ⟨(par h id).CB,id⟩=true/\(par h id).Id=id:=by
 have ho:=hR.one h0;have hk:=E5 ho.okp;have hr:=Cb hR.rules;have hp:=ho.pid
 grind[OI,CI]
theorem AHa{h:AE}(hf:Ba h)(id cabin frm size tier:Int):AFO h id cabin frm size tier=some (eW h id cabin frm size tier):=by
 unfold AFO bj eW;rw[FV hf,AF,FZ hf,AF];simp only[B5,bne_iff_ne,ne_eq];by_cases hv:verdict h ⟨1,id,cabin,frm,size,tier⟩=0
 .rw[if_neg (not_not_intro hv),if_neg (not_not_intro hv)];obtain⟨hJ,_,_,_⟩:=AHh hv;have hR:=E1 hv;have hlow:=(ADQ (NR hv).2).1 rfl;dsimp only at hlow;obtain⟨hb,c0,c1,f1⟩:=VA hv;have hs:=hf.DV;have hrow:=hR.ARL c0 c1;have ec:at? h.AH cabin=some (cbn h cabin):=EW c0 c1;have hJl:(Jz h id cabin frm size tier).AH.length=h.AH.length:=by unfold Jz;dsimp only;split<;>simp[EH,IG,FR,CQ]
  have hJr:=hJ.ARL (k:=cabin) c0 (by rw[hJl];exact c1);have e:(cbn (Jz h id cabin frm size tier) cabin).Row=put ltE (D4 h.AO (GL h id cabin frm size tier) h.Now).1 (cbn h cabin).Row:=by
   grind[Jz,AKG,cbn,FR,Iu,GL,put,ltE,D4,H2,IG,CQ,List.length_set]
  rw[e]at hJr;rw[MD hf.Bv,AF,N3 (by omega),AF];simp only[ec,AF];have hq:=Q3 (l:=(cbn h cabin).Row) (by omega) (D4 h.AO (GL h id cabin frm size tier) h.Now).1;rw[if_pos ⟨hrow.1,hJr.1⟩]at hq;show bd (ko (cbn h cabin).Row (D4 h.AO (GL h id cabin frm size tier) h.Now).1) _=_;rw[hq,AF];unfold Jz;dsimp only;by_cases f0:0<=frm
  .have hX:at? (h.AH.set cabin.toNat ⟨(cbn h cabin).AR,put ltE (D4 h.AO (GL h id cabin frm size tier) h.Now).1 (cbn h cabin).Row,(cbn h cabin).BO⟩) frm=some (cbn (FR ⟨h.AO,h.Now,w64 (h.Ai+1),Iu h.AG (GL h id cabin frm size tier),h.AH,h.A0,h.Ay⟩ (GL h id cabin frm size tier)) frm):=
    EW (h:=FR ⟨h.AO,h.Now,w64 (h.Ai+1),Iu h.AG (GL h id cabin frm size tier),h.AH,h.A0,h.Ay⟩ (GL h id cabin frm size tier)) f0 (by simp only[FR,CQ,List.length_set];exact f1)
   rw[if_pos (by omega),if_pos f0,hX];simp only[AF,iZ,AW,GV hf.todo];rfl
  .rw[if_neg (by omega),if_neg f0];simp only[AF,AW,GV hf.todo];rfl
 .rw[if_pos hv,if_pos hv]
theorem AGC{g:AE}{p:AJ}{id:Int}(hp:p.Id=id)(h1:-1<=p.BQ)(h2:p.BQ<g.AH.length)(hl:g.AG.length<=1048576) :
 (if p.BQ = -1 then some (LI g (g.AG.eraseP fun x=>x.Id==id)) else some (LI (CQ g p.BQ ⟨(l8 (cbn g p.BQ).AR p.A1 0 0 0 (-1)).1,(cbn g p.BQ).Row,(cbn g p.BQ).BO⟩) (g.AG.eraseP fun x=>x.Id==id)))=some (gone g p):=by
 unfold gone;rw[hp];dsimp only;by_cases h0:0<=p.BQ
 .rw[if_neg (by omega),if_pos h0];rfl
 .rw[if_pos (by omega),if_neg h0];rfl
theorem xP{h:AE}(hf:Ba h)(id:Int):AFQ h id=some (Na h id):=by
 unfold AFQ Na;rw[FV hf,AF,FZ hf,AF];simp only[B5,bne_iff_ne,ne_eq];by_cases hv:verdict h ⟨2,id,0,0,0,0⟩=0
 .rw[if_neg (not_not_intro hv),if_neg (not_not_intro hv)];obtain⟨hb,p0⟩:=P0 hv;have hR:=GB.1 hb;have ho:=hR.one p0;have hsz:=ho.size;have hlen:=hR.len;have hst:=E5 ho.okp;have hid:=ho.pid;have hgj:∀g:AE,g.AH.length=h.AH.length->g.AG=h.AG->T3 id (par h id) g=some (gone g (par h id),0):=by
   intro g hg1 hg2;have hge:=AGC (g:=g) (p:=par h id) hid (by omega) (by omega) (by rw[hg2];exact hf.Bv);unfold T3 bt;have hpc:T2 g.AG id=some (g.AG.eraseP fun x=>x.Id==id):=MC (by rw[hg2];exact hf.Bv) id;simp only[B5,bne_iff_ne,ne_eq,AW];by_cases f1:(par h id).BQ = -1
   .rw[if_neg (not_not_intro f1),hpc,AF];rw[if_pos f1]at hge;rw[<-Option.some.inj hge];rfl
   .have ef:at? g.AH (par h id).BQ=some (cbn g (par h id).BQ):=EW (by omega) (by omega);rw[if_pos f1];simp only[ef,AF,Jy,hpc];rw[if_neg f1]at hge;rw[<-Option.some.inj hge];rfl
  have ec:at? h.AH (par h id).AT=some (cbn h (par h id).AT):=EW hsz.2.1.1 (by omega);have hcf:=hR.AG6 hsz.2.1.1 (by omega);simp only[FY hf,AF,NY p0,Ez,ec,beq_iff_eq,AW];unfold cancelled;dsimp only;by_cases s1:(par h id).State=1
  .rw[if_pos s1,if_neg (by omega),Q2 hcf.1,AF];exact hgj (gz h (par h id).AT id) (by simp[gz,CQ]) rfl
  .have s2:(par h id).State=2:=by omega
   have hp:=ACn hR p0 s2;rw[if_neg s1,if_pos s2,ME hcf.2 hp.1,AF];simp only[SW hsz.2.1.1 (show (par h id).AT<(h.AH.length:Int) by omega),AF,PW,GV hf.todo,CZ];have:=hgj (EH (dropped h (par h id)) (Ov (dropped h (par h id)).A0 (par h id).AT)) (by simp[EH,dropped,CQ]) rfl;rw[<-this];unfold dropped;rw[hp.2];rfl
 .rw[if_pos hv,if_pos hv]
theorem eH{h:AE}(hf:Ba h)(k n:Int):AFR h k n=some (cm h k n):=by
 unfold AFR cm;rw[FV hf,AF,FZ hf,AF];simp only[B5,bne_iff_ne,ne_eq];by_cases hv:verdict h ⟨3,0,k,0,n,0⟩=0
 .rw[if_neg (not_not_intro hv),if_neg (not_not_intro hv)];obtain⟨hb,c0,c1⟩:=U9 hv;have ec:at? h.AH k=some (cbn h k):=EW c0 c1;simp only[ec,AF,PX,GV hf.todo];rfl
 .rw[if_pos hv,if_pos hv]
end Lv.P
namespace Lv.P
open Lv Go
theorem AKF{X:AE}{p:AJ}(h0:0<=p.BQ)(h1:p.BQ<X.AH.length):cbn (gone X p) p.BQ=⟨(l8 (cbn X p.BQ).AR p.A1 0 0 0 (-1)).1,(cbn X p.BQ).Row,(cbn X p.BQ).BO⟩:=by
 grind[gone,H2]
theorem xN{h:AE}(hf:Ba h)(id:Int):AFH h id=some (NU h id):=by
 unfold AFH NU bO;rw[FV hf,AF,FZ hf,AF];simp only[B5,bne_iff_ne,ne_eq];by_cases hv:verdict h ⟨4,id,0,0,0,0⟩=0
 .rw[if_neg (not_not_intro hv),if_neg (not_not_intro hv)];obtain⟨hb,p0⟩:=Pz hv;have hR:=GB.1 hb;have ho:=hR.one p0;have hsz:=ho.size;have hlen:=hR.len;have s2:=(jF ((MN hv).2.2.2.1 (.inl rfl))).2;dsimp only at s2;have hp:=ACn hR p0 s2;have ec:at? h.AH (par h id).AT=some (cbn h (par h id).AT):=EW hsz.2.1.1 (by omega);have hcf:=hR.AG6 hsz.2.1.1 (by omega);have hpc:T2 h.AG id=some (h.AG.eraseP fun x=>x.Id==id):=MC hf.Bv id;simp only[FY hf,AF,NY p0,Ez,ec,eR,SW hsz.2.1.1 (show (par h id).AT<(h.AH.length:Int) by omega),ME hcf.2 hp.1,hpc,CZ,AW];have hXl:(Uv h (par h id)).AH.length=h.AH.length:=by simp[Uv,CQ]
  have hX:(Uv h (par h id)).AH=h.AH.set (par h id).AT.toNat ⟨(l8 (cbn h (par h id).AT).AR (par h id).A1 0 (-1) 1 0).1,(cbn h (par h id).AT).Row,(Qs (cbn h (par h id).AT).BO ⟨(par h id).CB,id⟩).1⟩:=by unfold Uv CQ;rw[hp.2]
  rw[<-hX];unfold accepted;dsimp only;by_cases f0:0<=(par h id).BQ
  .have ef:at? (Uv h (par h id)).AH (par h id).BQ=some (cbn (Uv h (par h id)) (par h id).BQ):=EW f0 (by omega);rw[if_pos (by omega),if_pos f0,ef];simp only[AF,Jy,SW f0 (show (par h id).BQ<((Uv h (par h id)).AH.length:Int) by omega),PX,GV hf.todo,CZ];unfold Qz;rw[AKF f0 (by omega)];unfold gone CQ;simp only[if_pos f0,CZ,hp.2];rfl
  .rw[if_neg (by omega),if_neg f0];unfold gone;simp only[if_neg f0,hp.2];rfl
 .rw[if_pos hv,if_pos hv]
theorem Q4{h:AE}(hR:RH h){id:Int}(p0:0<=Ep h id)(s2:(par h id).State=2):vj h id=some (Gu h (par h id)):=by
 have hf:=hR.fit;have ho:=hR.one p0;have hsz:=ho.size;have hlen:=hR.len;have hs:=hf.DV;have hp:=ACn hR p0 s2;have hk:=hsz.2.1.1;have hk1:(par h id).AT<(h.AH.length:Int):=by omega
 have ec:at? h.AH (par h id).AT=some (cbn h (par h id).AT):=EW hk hk1;have hcf:=hR.AG6 hk hk1;have hpc:T2 h.AG id=some (h.AG.eraseP fun x=>x.Id==id):=MC hf.Bv id;unfold vj bP;simp only[FY hf,AF,NY p0,Ez,ec,PW,SW hk hk1,ME hcf.2 hp.1,xR (show h.AO.AR.length<2 ^ 62 by omega),CZ,B5,AW,hpc];have hXl:(dropped h (par h id)).AH.length=h.AH.length:=by simp[dropped,CQ]
 have hX:(dropped h (par h id)).AH=h.AH.set (par h id).AT.toNat ⟨(l8 (cbn h (par h id).AT).AR (par h id).A1 1 (-1) 0 0).1,(cbn h (par h id).AT).Row,(Qs (cbn h (par h id).AT).BO ⟨(par h id).CB,id⟩).1⟩:=by unfold dropped CQ;rw[hp.2]
 have hF:=cZ hR ho s2;by_cases hc:(Ds h.AO (par h id) h.Now).2=true
 .have hcab:=XK hc;have e:Gu h (par h id)=FR (LI (dropped h (par h id)) (Iu h.AG (Ds h.AO (par h id) h.Now).1)) (Ds h.AO (par h id) h.Now).1:=by unfold Gu;rw[if_pos hc]
  have hrowX:cbn (dropped h (par h id)) (par h id).AT=⟨(l8 (cbn h (par h id).AT).AR (par h id).A1 1 (-1) 0 0).1,(cbn h (par h id).AT).Row,(Qs (cbn h (par h id).AT).BO ⟨(par h id).CB,id⟩).1⟩:=by
   unfold dropped;rw[H2 hk hk1 hk,if_pos rfl,hp.2]
  have hr1:=hR.ARL hk hk1;have hr2:=hF.ARL hk (by rw[(cg h _).D7];exact hk1);have e2:(cbn (Gu h (par h id)) (par h id).AT).Row=put ltE (D4 h.AO (Ds h.AO (par h id) h.Now).1 h.Now).1 (cbn h (par h id).AT).Row:=by
   rw[e];unfold FR;rw[hcab,H2 hk (by show (par h id).AT<((dropped h (par h id)).AH.length:Int);omega) hk,if_pos rfl];show put ltE _ (cbn (dropped h (par h id)) (par h id).AT).Row=_;rw[hrowX];rfl
  rw[e2]at hr2;have hq:=Q3 (l:=(cbn h (par h id).AT).Row) (by omega) (D4 h.AO (Ds h.AO (par h id) h.Now).1 h.Now).1;rw[if_pos ⟨hr1.1,hr2.1⟩]at hq;simp only[hc,if_true,MD hf.Bv,AF,N3 (show h.AO.AR.length<2 ^ 62 by omega),hq];rw[e];unfold FR;rw[hcab]
  grind[CQ,LI,dropped,par,cbn,put,ltE,List.set_set]
 .have hc':(Ds h.AO (par h id) h.Now).2=false:=by simpa using hc
  have e:Gu h (par h id)=gone (dropped h (par h id)) (par h id):=by unfold Gu;rw[if_neg hc]
  have hge:=AGC (g:=dropped h (par h id)) (p:=par h id) hp.2 hsz.2.2.1.1 (by omega) hf.Bv;rw[e,<-hge];simp only[hc',A4,if_false,<-hX,bne_iff_ne,ne_eq];by_cases f1:(par h id).BQ = -1
  .rw[if_neg (not_not_intro f1),if_pos f1];rfl
  .have ef:at? (dropped h (par h id)).AH (par h id).BQ=some (cbn (dropped h (par h id)) (par h id).BQ):=EW (by omega) (by omega);rw[if_pos f1,if_neg f1,ef];simp only[AF,Jy];rfl
theorem oZ{h:AE}(hf:Ba h)(id:Int):AFJ h id=some (Kt h id):=by
 unfold AFJ Kt;rw[FV hf,AF,FZ hf,AF];simp only[B5,bne_iff_ne,ne_eq];by_cases hv:verdict h ⟨5,id,0,0,0,0⟩=0
 .rw[if_neg (not_not_intro hv),if_neg (not_not_intro hv)];obtain⟨hb,p0⟩:=Ol hv;have hR:=GB.1 hb;have s2:=(jF ((MN hv).2.2.2.1 (.inr rfl))).2;dsimp only at s2;have hF:=cZ hR (hR.one p0) s2;simp only[FY hf,AF,NY p0,Q4 hR p0 s2,GV hF.fit.todo];rfl
 .rw[if_pos hv,if_pos hv]
theorem AJe{n:Nat}{h x:AE}(hh:Sm n h)(hx:x.AH.length=h.AH.length)(hcn:∀c:Int,Cr h.AG c<=19)(hn:n+h.AH.length<=1048576):Aw (Tz x) big (0,h)=some (Lk h.AH.length 0 h,0):=by
 generalize hlen:h.AH.length=len at *;refine(C5 (F:=Tz x) (n:=len) (fun i (v:AE)=>((i:Int),v)) (fun i v=>Sm (n+i) v/\v.AH.length=len/\v.AG=h.AG) (fun i v=>some (Lk (len-i) i v,0)) (by omega) ?_ (v:=h) ⟨hh,hlen,rfl⟩).trans (by rw[Nat.sub_zero]);intro L i v ⟨hv,hvl,hvp⟩ hi ih;have hf:=hv.fit (by omega);unfold Tz;dsimp only;rw[hx];rcases Aj i len with h'|h'
 .have hs:=hf.DV;have hp:=hf.Bv;rw[A3 h',BW,UK (by omega) hp (by rw[hvp];exact hcn _),AF,EW (by omega) (by omega),AF,AF,N2 (by omega),AF];have e:Lk (len-i) i v=Lk (len-(i+1)) (i+1) (NP v i):=by rw[show len-i=(len-(i+1))+1 by omega];rfl
  rw[e];have hst:=ih (NP v i) ⟨by have:=gx hv i;rw[Nat.add_assoc]at this;exact this,by rw[mJ];exact hvl,by rw[APd.IX];exact hvp⟩ h';rw[<-hst];unfold bQ NP;simp only[Bl,gt_iff_lt,AW,Bd h' (show len<2 ^ 63 by omega),AX,GV hf.todo,AF];split<;>rfl
 .have:i=len:=by omega
  subst this;rw[Cw,BV,AW,Nat.sub_self];rfl
theorem AHe{h:AE}(hf:Ba h):AFK h=some (gy h):=by
 unfold AFK gy;rw[FV hf,AF,FZ hf,AF];simp only[B5,bne_iff_ne,ne_eq];by_cases hv:verdict h ⟨6,0,0,0,0,0⟩=0
 .have hR:=E1 hv;have hh:=hR.sm;have hlen:=hR.len;have hr:=Cb hR.rules;have h':Sm 1000 ⟨h.AO,w64 (h.Now+1),h.Ai,h.AG,h.AH,h.A0,h.Ay⟩:=⟨hh.DV,hh.Bv,hh.D7,hh.C4,hh.todo,hh.FL⟩;rw[if_neg (not_not_intro hv),if_neg (not_not_intro hv)];exact AJe (x:=h) h' rfl (fun c=>by have:=hR.cnt c;show Cr h.AG c<=19;omega) (by show 1000+h.AH.length<=1048576;omega)
 .rw[if_pos hv,if_pos hv]
end Lv.P
namespace Lv.P
open Lv Go
theorem og{w:Ah}(hw:DK w)(now:Int):AFL w now=some ((Dq w).filter fun p=>decide (p.At<=now)):=by
 have hlim:lim=268435456:=rfl;have hl:=HH hw;unfold AFL;rw[La hw,AF,collect (l:=Dq w) (fun p=>if p.At<=now then some p else none) some hl ?_ ?_]
 .congr 1;generalize Dq w=l
  induction l<;>grind
 .grind[bU,bS,A3,BW,A5,AF,Bl,AW,DB,Dq,lim,KK]
 grind[bU,vm,BV,AW]
theorem Q5{h:AE}(hR:RH h){k:Nat}(hk:k<h.AH.length):vk h k=some true:=by
 have hlen:=hR.len;unfold vk bR;rw[Io hR.fit,GB.2 hR,AF,BW,XR,AF,AW,BP (by omega) (by omega),CI.2 (by omega)]
theorem ABw{h:AE}(hR:RH h){k:Nat}(hk:k<h.AH.length):AFc h k=some (cU (cbn h k).BO h.Now):=by
 have hlim:lim=268435456:=rfl;have hw:=(hR.AG6 (k:=(k:Int)) (by omega) (by omega)).2;have hl:=HH hw;unfold AFc;rw[Q5 hR hk,AF,BI,BW,show at? h.AH (k:Int)=some (cbn h k) from EW (by omega) (by omega),AF,og hw,AF];generalize hD:(Dq (cbn h k).BO).filter (fun p=>decide (p.At<=h.Now))=D;have hDl:D.length<=1048576:=by rw[<-hD];exact A9 (List.length_filter_le _ _) hl
 rw[collect (l:=D) (fun p=>some p.Id) some hDl ?_ ?_]
 .unfold cU;rw[<-hD];congr 1;generalize Dq (cbn h k).BO=l
  induction l<;>grind
 .grind[cE,A3,BW,A5,AF,DB,lim,KK]
 grind[cE,wJ,BV,AW]
theorem xQ{h:AE}(hR:RH h){k:Nat}(hk:k<h.AH.length):AFd h k=some (T9 h k):=by
 obtain⟨hO,hl⟩:=PH hR hk;unfold AFd T9;rw[FV hR.fit,AF,ABw hR hk,AF];generalize cU (cbn h k).BO h.Now=D at *;refine(C5 (F:=cF D) (n:=D.length) (fun i (v:AE)=>((i:Int),v)) (fun i v=>RH v/\AG0 v (D.drop i)) (fun i v=>some (QE (D.drop i) v)) (by omega) ?_ (v:=h) ⟨hR,hO⟩);rintro L i v ⟨hv,ho⟩ hi ih;unfold cF wN;dsimp only;rcases Aj i D.length with hlt|hge
 .rw[Ec hlt]at ho ⊢;have ha:=ho.2 D[i] (List.mem_cons_self ..);obtain⟨s1,s2,_⟩:=RY hv ho;simp only[A3 hlt,BW,A5 hlt,AF,Q4 hv ha.1 ha.2,Bd hlt (show D.length<2 ^ 63 by omega)];exact ih _ ⟨s1,s2⟩ hlt
 .obtain rfl:i=D.length:=by omega
  rw[Cw,BV,AW,List.drop_length];rfl
theorem oh(p:AJ)(now:Int):AFe p now=some (Um p now):=by
 unfold AFe cG Um;rw[AW,AW,B7]
theorem iY{l:List AQ}(hl:l.length<=1048576){skip:List Int}(hs:skip.length<=1048576)(free:Int):wS l free skip=some (atF (xA free skip) l 0):=by
 unfold wS ALD;rw[NX (l:=l) (p:=xA free skip) (by omega) ?_ ?_,AF]
 .intro L i h;unfold cI ALC cH xA
  grind[A3,BW,A5,AF,MA,AW,B7]
 grind[cI,wP,BV,AW]
theorem eJ{h:AE}(hR:RH h){k:Nat}(hk:k<h.AH.length):AFf h k=some (D2 h k):=by
 have hlim:lim=268435456:=rfl;have hh:=hR.fit;have hp:=hh.Bv;have hs:(gM h).length<=1048576:=A9 (List.length_filterMap_le _ _) hp;have hc:=(hR.AG6 (k:=(k:Int)) (by omega) (by omega)).1;unfold AFf;rw[Q5 hR hk,AF,BI,BW,collect (l:=h.AG) (fun p=>if Um p h.Now=true then some p.Id else none) (cK h k) hp ?_ ?_]
 .grind[cK,at?,cbn,EW,AF,wS,gM,iY,Q7,D2,Bl,mW]
 .grind[cL,cJ,A3,BW,A5,AF,oh,B5,AW,DB,lim,KK]
 grind[cL,BV,AW]
theorem ABx{h:AE}(hR:RH h){k:Nat}(hk:k<h.AH.length):AFh h k=some (if D2 h k=0 then (h,0) else (Gz h k (D2 h k),D2 h k)):=by
 have hf:=hR.fit;unfold AFh;rw[FV hf,AF,eJ hR hk,AF,B5];by_cases hz:D2 h k=0
 .grind
 .obtain⟨n1,n2,n3,n4,n5⟩:=fF hR hk hz;have hc:=hR.AG6 (k:=(k:Int)) (by omega) (by omega);have ec:at? h.AH (k:Int)=some (cbn h k):=EW (by omega) (by omega);rw[if_neg (by simpa using hz),if_neg hz];simp only[FY hf,AF,NY n1,Ez,ec,eQ,SW (show 0<=(k:Int) by omega) (show (k:Int)<(h.AH.length:Int) by omega),Q2 hc.1,MD hf.Bv,CZ,ib hc.2];rfl
theorem AJK{h:AE}(hR:RH h){k:Nat}(hk:k<h.AH.length):Aw (T4 k) big ([],h)=some (LB k 10 h []):=by
 have hlim:lim=268435456:=rfl;refine WS (F:=T4 k) (fun x=>some (LB k (10-x.1.length) x.2 x.1)) (fun x=>RH x.2/\k<x.2.AH.length/\x.1.length+(cbn x.2 k).Row.length<=10) (fun x=>(cbn x.2 k).Row.length) ?_ (x:=([],h)) ⟨hR,hk,by have:=YG hR hk;simpa using this⟩ (by have:=YG hR hk;show (cbn h k).Row.length<_;omega);rintro L ⟨a,g⟩ ⟨hg,hkg,hlen⟩ ih;dsimp only at hg hkg hlen ih ⊢;unfold T4;dsimp only;rw[ABx hg hkg,AF];by_cases hz:D2 g k=0
 .grind[AGn,BW]
 .obtain⟨s1,s2⟩:=Rs hg hkg hz;have hpos:=xm hz;rw[if_neg hz];dsimp only;have hb:(D2 g k==0)=false:=by simpa using hz
  rw[hb,BV,DB (by simp only[Ao,Ad];omega),ih (a++[D2 g k],Gz g k (D2 g k)) ⟨s1,by rw[(OF g k _).D7];exact hkg,by simp only[BM,Ao,Ad];omega⟩ (by dsimp only;omega)];congr 1;rw[show 10-a.length=(10-(a++[D2 g k]).length)+1 by simp only[BM,Ao,Ad];omega]
  conv=>rhs;unfold LB
  rw[if_neg hz]
theorem AHc{h:AE}(hR:RH h){k:Nat}(hk:k<h.AH.length):AFi h k=some (H5 h k):=by
 obtain⟨e1,e2⟩:=Nu hR (PH hR hk).1;unfold AFi;rw[xQ hR hk,AF];exact AJK e1 (by rw[e2.D7];exact hk)
theorem AHb{h:AE}(hf:Ba h)(who:Int):AFj h who=some (Ud h who):=by
 unfold AFj Ud;rw[FV hf,AF,FZ hf,AF];simp only[B5,bne_iff_ne,ne_eq,beq_iff_eq];by_cases hv:verdict h ⟨7,who,0,0,0,0⟩=0
 .rw[if_neg (not_not_intro hv),if_neg (not_not_intro hv)];have hR:=E1 hv;have hlen:=hR.len;obtain⟨n,hn,e,hno⟩:=VB rfl hv;dsimp only at e;subst e;have eg:h.Ay.getD n 0=h.Ay[n]:=by rw[A6,AU hn];rfl
  have hjb:=B9.1 hR.FL _ (Am hn);rw[CI]at hjb;unfold pg;simp only[A5 hn,AF,AX,eg];by_cases h0:h.Ay[n]<0
  .have h1:h.Ay[n] = -1:=by omega
   rw[if_pos h1,if_pos h0];have ht:0<h.A0.length:=by
    grind[Nat.eq_zero_or_pos]
   have e0:h.A0.getD 0 0=h.A0[0]:=by rw[A6,AU ht];rfl
   have ht2:=hf.todo;have h3:List.take (h.A0.length-Int.toNat 1) (List.drop (Int.toNat 1) h.A0)=h.A0.drop 1:=List.take_of_length_le (by rw[List.length_drop];exact Nat.le_refl _);rw[rP,AU ht,AF,AF,DB ⟨by omega,by omega⟩,e0,h3];rfl
  .have h1:¬h.Ay[n] = -1:=by omega
   rw[if_neg h1,if_neg h0];obtain⟨k,hk,ek⟩:=hR.job hn h0;obtain⟨s1,s2,s3⟩:=gG hR hk;have hn':n<(H5 h k).1.Ay.length:=by rw[s2.FL];exact hn
   rw[ek,AHc hR hk,AF,A5 hn',AF,AF];rfl
 .rw[if_pos hv,if_pos hv]
theorem AQp{h:AE}(hf:Ba h)(q:Bw):AFk h q=some (doF h q):=by
 grind[AFk,doF,Je,FV,FZ,AF,AHa,xP,eH,xN,oZ,AHe,AHb,B5,AW]
theorem eG{h:AE}(hf:Ba h){l:List Bw}(hl:l.length<=1048576):wT h l=some (HB l h):=by
 have hlim:lim=268435456:=rfl;unfold wT;rw[FV hf,AF];refine(C5 (F:=AUm l) (n:=l.length) (fun i (v:List BK×AE)=>(v.1,(i:Int),v.2)) (fun i v=>Ba v.2/\v.1.length=i) (fun i v=>some ((HB (l.drop i) v.2).1,v.1++(HB (l.drop i) v.2).2)) (by omega) ?_ (v:=([],h)) ⟨hf,rfl⟩).trans ?_
 .rintro L i ⟨a,g⟩ ⟨hg,ha⟩ hi ih;dsimp only at hg ha ih ⊢;unfold AUm wV;dsimp only;rcases Aj i l.length with hlt|hge
  .have hd:=qM hg l[i];rw[Ec hlt];simp only[A3 hlt,BW,A5 hlt,AF,AQp hg,Bd hlt (show l.length<2 ^ 63 by omega)];rw[DB (by simp only[Ao,Ad];omega)];have:=ih (a++[(doF g l[i]).2],(doF g l[i]).1) ⟨hd.2.1,by simp[ha]⟩ hlt;dsimp only at this;rw[this];simp only[HB,List.append_assoc,List.singleton_append]
  .grind[BV,AW,List.drop_length,HB]
 .simp
end Lv.P
