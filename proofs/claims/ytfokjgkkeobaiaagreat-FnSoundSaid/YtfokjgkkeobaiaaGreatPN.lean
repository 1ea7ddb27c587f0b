/- Plain laws about what the program computes. -/
import Derived.Test.YtfokjgkkeobaiaaGreatPF
set_option linter.all false
noncomputable section
open Bool renaming and_eq_true->AF,and_true->CK,false_eq_true->BI,not_eq_false->Er,not_eq_true->DD,not_false->EM,not_true->Bq,true_and->Ce,true_eq_false->DZ
open Int renaming eq_ofNat_of_zero_le->Ah,toNat_natCast->Af
open List renaming all_eq_true->CC,all_nil->NI,append_assoc->BP,append_inj->D2,append_nil->CV,cons_append->Bi,drop_append_of_le_length->Ee,drop_eq_nil_of_le->A1,drop_length->Ck,drop_take->LQ,getD_eq_getElem?_getD->BA,getElem?_eq_getElem->AR,getElem_mem->Ao,length_append->AJ,length_cons->AI,length_drop->BH,length_eq_zero_iff->Fj,length_map->Ac,length_nil->AM,length_pos_iff->JL,length_take->Ai,mem_append->Bn,mem_cons->Ad,mem_cons_of_mem->Ae,mem_cons_self->BJ,mem_iff_getElem->C2,nil_append->Bb,not_mem_nil->H5,set_set->FT,take_append_drop->CY,take_left'->Ca,take_length->CO,take_of_length_le->BC,take_succ_cons->Cu
open List.cons renaming injEq->CB
open Nat renaming le_refl->Ab,le_trans->Aw,lt_or_ge->Aa,sub_zero->FU,zero_add->Aq
open Option renaming getD_some->DE
open Option.some renaming injEq->AD
namespace Lv.P
open Lv Go
variable{e:A6}{H g h:AE}{x y:AE×Int×Bool}{r:AY}{a:B4}{c:BS}{s:Bo}{w:CQ}{b id k m n p q:Int}{l:List A0}{R:List Bp}{T:List UInt8}{B i:Nat}{α:Type}
theorem Rl{l:List AU}(a:l.length<=1048576)(id:Int):qG l id=some (atF (λx=>x.Id==id) l 0):=by
 unfold qG AOL
 grind[RG,AB,ABb,AOK,BT,BQ,ABa,Bd,AV]
theorem HR(a:Br h)(id:Int):NM h id=some (GM h id):=by
 unfold NM;rw[Rl a.CP,AB];rfl
theorem lN(a:0<=k)(c:k<h.AH.length):qH h k=some (Ka h k):=by
 unfold qH;rw[F3 a c,AB,AB];rfl
theorem AR9(p:AU)(now:Int):ABc p now=some (AOo p now):=by
 unfold ABc ik AOo;rw[AV,AV,Cn]
theorem IX{l:List Int}(a:l.length<=1048576)(k:Int):XR l k=some (Q5 l k):=by
 grind[lim,XR,jZ,Q5,WX,AB,Ps,Bw,AV,CE]
theorem AEj{c:C}{l:List c.D}{k:Nat}(a:k<l.length):ACS c l (k:Int) ((k+1:Nat):Int)=some (l.take k++l.drop (k+1)):=by
 grind[ACS]
theorem ASB{c:C}{l:List c.D}{k:Nat}(a:k<=l.length)(e:l.length<=1048576)(x:c.D):oD c l (k:Int) [x]=some (l.take k++x::l.drop k):=by
 grind[oD,lim]
theorem AY1{l:List AU}{k:Nat}(a:k<l.length):AW2 l (k:Int) ((k:Int)+1)=some (l.take k++l.drop (k+1)):=AEj (c:=.st 2) a
theorem AXD{l:List AU}{k:Nat}(a:k<=l.length)(e:l.length<=1048576)(x:AU):AWz l (k:Int) [x]=some (l.take k++x::l.drop k):=ASB (c:=.st 2) a e x
theorem AYz{k:Nat}(a:k<l.length):AW0 l (k:Int) ((k:Int)+1)=some (l.take k++l.drop (k+1)):=AEj (c:=.st 4) a
theorem AZD{k:Nat}(a:k<=l.length)(e:l.length<=1048576)(x:A0):AOP l (k:Int) [x]=some (l.take k++x::l.drop k):=ASB (c:=.st 4) a e x
theorem AY0{l:List Bc}{k:Nat}(a:k<l.length):AW1 l (k:Int) ((k:Int)+1)=some (l.take k++l.drop (k+1)):=AEj (c:=.st 5) a
theorem Pu{l:List AU}(h:l.length<=1048576)(id:Int):XS l id=some (l.eraseP (λx=>x.Id==id)):=by
 have hlim:lim=268435456:=rfl;unfold XS jf;rw[CE (by omega),Rl h,AB,BW];rcases Ji (λx:AU=>x.Id==id) l 0 with ⟨a,c,e⟩|⟨k,g,a,c,e,_⟩
 .rw[a,AT (by omega),AV,c]
 .rw[a,Aq,AW (by omega),A7 (by omega) (by omega)];rw[AY1 g];erw [AB];rw[AV,c]
theorem VX(a:l.length<=1048576):W0 l=some l:=by
 unfold W0;rw[CE (by unfold lim;omega)]
theorem U9(h:l.length<=1048576)(id:Int):ABt l id=some (l.eraseP (λx=>x.Id==id),l.any λx=>x.Id==id):=by
 have hlim:lim=268435456:=rfl;unfold ABt;rw[VX h,AB,Xt (by omega),AB,BW];rcases Ji (λx:A0=>x.Id==id) l 0 with ⟨a,c,e⟩|⟨k,g,a,c,e,_⟩
 .grind
 .rw[a,Aq,AT (by omega),A7 (by omega) (by omega)];rw[AYz g];erw [AB];rw[c,e]
theorem Px{w:A2}(B:DY w){p:Bc}(E:Ry p=true):qO w p=some (Uy w p):=by
 have hlim:lim=268435456:=rfl;have c:=(Ni E).1.1;unfold qO;rw[UI B,AB,IY B,AB,Vr,E,AB,BM,Bw,AV,AV];unfold Uy jc;by_cases j:HL w=true
 .rw[AW j,AW ⟨j,c⟩,Bq,Bd];have ⟨m,H,y⟩:=cG (n:=p.At) c;have a:m<w.Au.length:=by have:=(EO.1 j).1;omega
  have I:w.Au[m].length<=1048576:=Aw (MO a) B.2;rw[y,Af,BA,AR a,DE];simp only[BQ a,AB];have q:AIv w.Au[m] p=some (atF (isP p) w.Au[m] 0):=by
   grind[AIv,RG,ABv,isP,BT,BQ,AB,ABu,Bd,AV]
  rw[q,AB,BW];rcases Ji (isP p) w.Au[m] 0 with ⟨e,g,h⟩|⟨k,G,e,g,h,_⟩
  .rw[e,AW (by omega),g,h,List.set_getElem_self]
  .rw[e,Aq,AT (by omega),A7 (by omega) (by omega)];rw[AY0 G];erw [AB];rw[CE ⟨rfl,⟨by omega,by omega⟩,trivial⟩,g,h]
 grind[BT]
theorem Ql{l l':BN}{a c d:Int}(h:El l=true->0<=n->n<=60->l'=⟨l.Total,w64 (l.D1+w64 (a*n)),w64 (l.FL+w64 (b*n)),w64 (l.GA+w64 (c*n)),w64 (l.GZ+w64 (d*n))⟩) :
 (if El l=true then if inB n 0 60=true then if El l'=true then some (l',true) else some (l,false) else some (l,false) else some (l,false))=some (l8 l n a b c d):=by
 unfold l8
 grind[inB]
theorem N9{x:Int}(h:-1000<=x/\x<=1000):w64 x=x:=A7 (by omega) (by omega)
theorem oC(l:BN)(n:Int):AIt l n=some (l8 l n 0 0 0 1):=by
 rw[<-Ql (l':=⟨l.Total,l.D1,l.FL,l.GA,w64 (l.GZ+n)⟩) λh a c=>by have:=GG.1 h;congr 1<;>grind[N9]];unfold AIt AOU jY AOT
 grind[Gq,GJ,AB,AV,Bw]
theorem M7(l:BN)(n:Int):qP l n=some (l8 l n 0 0 0 (-1)):=by
 rw[<-Ql (l':=⟨l.Total,l.D1,l.FL,l.GA,w64 (l.GZ-n)⟩) λh a c=>by have:=GG.1 h;congr 1<;>grind[N9]];unfold qP AOY je AOX
 grind[Gq,GJ,AB,AV,Bw]
theorem lL(l:BN)(n:Int):AI6 l n=some (l8 l n (-1) 1 0 0):=by
 rw[<-Ql (l':=⟨l.Total,w64 (l.D1-n),w64 (l.FL+n),l.GA,l.GZ⟩) λh a c=>by have:=GG.1 h;congr 1<;>grind[N9]];unfold AI6 AOf jx AOe
 grind[Gq,GJ,AB,AV,Bw]
theorem Te(l:BN)(n:Int):ABw l n=some (l8 l n 1 (-1) 0 0):=by
 rw[<-Ql (l':=⟨l.Total,w64 (l.D1+n),w64 (l.FL-n),l.GA,l.GZ⟩) λh a c=>by have:=GG.1 h;congr 1<;>grind[N9]];unfold ABw AOW jd AOV
 grind[Gq,GJ,AB,AV,Bw]
theorem lM(l:BN)(n:Int):AIy l n=some (l8 l n 0 (-1) 1 0):=by
 rw[<-Ql (l':=⟨l.Total,l.D1,w64 (l.FL-n),w64 (l.GA+n),l.GZ⟩) λh a c=>by have:=GG.1 h;congr 1<;>grind[N9]];unfold AIy AOc ji AOb
 grind[Gq,GJ,AB,AV,Bw]
theorem Tf(l:BN)(n:Int):ABx l n=some (l8 l n 1 0 (-1) 0):=by
 rw[<-Ql (l':=⟨l.Total,w64 (l.D1+n),l.FL,w64 (l.GA-n),l.GZ⟩) λh a c=>by have:=GG.1 h;congr 1<;>grind[N9]];unfold ABx AOa jh AOZ
 grind[Gq,GJ,AB,AV,Bw]
theorem AS4{α:Type}{lt:α->α->Bool}{q:α->Bool}(a:α):∀{l:List α} (s:Nat),(∀x∈l,q x=!(lt x a))->(atF q l s = -1/\put lt a l=l++[a])\/∃k,k<l.length/\atF q l s=((s+k:Nat):Int)/\put lt a l=l.take k++a::l.drop k
 | [],s,_=>.inl ⟨rfl,rfl⟩|z::l,s,h=>by
  have E:=h z (BJ ..);cases e:lt z a with
  |true=>
   have j:q z=false:=by rw[E,e];rfl
   rcases AS4 a (l:=l) (s+1) (λx B=>h x (Ae _ B)) with ⟨c,g⟩|⟨k,y,c,g⟩
   .exact .inl ⟨by simp[atF,j,c],by simp[put,e,g]⟩
   .exact .inr ⟨k+1,by simpa using y,by simp only[atF,j,BI,if_false,c];omega,by simp[put,e,g]⟩
  |false=>
   grind[atF,put]
theorem Pv{l:List AU}(g:l.length<=1048576)(p:AU):qM l p=some (LO l p):=by
 have hlim:lim=268435456:=rfl;unfold qM jU LO;rw[CE (by omega),Rl g,AB,BW];rcases Ji (λx:AU=>x.Id==p.Id) l 0 with ⟨j,_,y⟩|⟨k,B,j,_⟩
 .rw[j,AT (by omega),AT (by omega)];have e:AIZ l p=some (atF (λx:AU=>decide (x.Id>p.Id)) l 0):=by
   grind[AIZ,RG,ABe,AOM,BT,BQ,AB,ABd,Bd,AV]
  rw[e,AB,BW,AV,AV];have h:=List.any_eq_false.1 y;rcases AS4 (lt:=LB) (q:=λx:AU=>decide (x.Id>p.Id)) p (l:=l) 0 (λx E=>by
   have:=h x E;simp only[beq_iff_eq]at this;unfold LB;rw[Bool.eq_iff_iff];simp;omega) with ⟨a,c⟩|⟨k,B,a,c⟩
  .have:=AXD (l:=l) (k:=l.length) (Ab _) g p;rw[a,AW (by omega),this];erw [AB];rw[c];simp
  .have:=AXD (l:=l) (k:=k) (by omega) g p;rw[a,Aq,AT (by omega),this];erw [AB];rw[c]
 grind[BQ,AB]
theorem VA(c:l.length<=1048575)(e:A0):qN l e=some (if LG l=true/\LG (put ltE e l)=true then (put ltE e l,true) else (l,false)):=by
 have hlim:lim=268435456:=rfl;unfold qN;rw[VX (by omega),AB];have a:∀i:Nat,i<=l.length->jV l e l i=some (if LG l=true/\LG (l.take i++e::l.drop i)=true then (l.take i++e::l.drop i,true) else (l,false)):=by
  intro i hi;have:=AZD (l:=l) (k:=i) hi (by omega) e;unfold jV jW;rw[VX (by omega)];rw[AB,this]
  erw [AB]
  rw[AB,this]
  erw [AB]
  grind[Cp,AB,Xu,AV,Bw]
 refine Tw (lt:=ltE) (λm=>some (if LG l=true/\LG m=true then (m,true) else (l,false))) (by omega) ?_ ?_
 .grind[jX,XQ,BT,BQ,AB,Ta,AV]
 grind[jX,XQ,Bd,AV]
theorem ACt(h:r.AX.length<2 ^ 62)(p:AU)(now:Int):AIm r p now=some (E0 r p now):=by
 unfold AIm XO E0;rw[Nb h,AB];simp only[AV,BM,Bw,bne_iff_ne,ne_eq,beq_iff_eq];by_cases a:Dw r p now=true
 .have g:=FB a;have j:=CL g.1;have ew:w64 (p.Dm+1)=p.Dm+1:=A7 (by omega) (by omega);rw[ew];by_cases c:p.State=2
  .by_cases e:p.Dm+1=r.Cg
   .have:¬p.Dm+1<r.Cg:=by omega
    simp[a,c,e];rfl
   grind
  .simp[a,c];rfl
 .simp[a];rfl
theorem AHF{q:Bp}(h:KF q=true):(q.Kind=1->0<=q.AZ /\ -1<=q.Bz)/\(q.Kind=3->0<=q.AZ)/\(q.Kind=7->0<=q.Id):=by
 grind[KF,RU,B8]
theorem AF8(hR:RH h){q:Bp}(B:0<=q.AZ)(E:-1<=q.Bz) :
 (bd (NL q.AZ (↑h.AH.length:Int)) λy=>
  br (!y)
   (jn (Mi h q) true)
   (bd (DP q.Bz (-1) (w64 ((↑h.AH.length:Int)-1))) λa=>
   br (!a)
    (jn (Mi h q) true)
    (jn (Mi h q) (q.Bz==q.AZ))))=some (YB h q):=by
 have e:=hR.fit;have g:=hR.len;have I:=e.CP;have ew:w64 ((h.AH.length:Int)-1)=(h.AH.length:Int)-1:=A7 (by omega) (by omega);have G:∀b,(q.Bz<h.AH.length\/b=true)->Mi h q b=some (if b=true then 4
  else if inB q.BK 1 h.AQ.BK=false then 5
  else if h.AQ.CZ<=q.DS then 6
  else if inB q.Id 1 999=false then 7
  else if 0<=GM h q.Id then 8
  else if h.AQ.Room<=DW h.AG q.AZ then 9
  else if 0<=q.Bz/\Ka h q.Bz<q.BK then 10
  else if 1000000<h.A4 then 11 else 0):=by
  intro b j;unfold Mi il JT;cases b with
  |true=>rfl|false=>
   have hF:q.Bz<h.AH.length:=by simpa using j
   have H:0<=q.Bz->qH h q.Bz=some (Ka h q.Bz):=λc=>lN c hF
   simp only[Bd,GJ,AB,BM,Bw,BI,if_false,ge_iff_le,gt_iff_lt,decide_eq_true_eq,HR e,Rj (show h.AG.length<2 ^ 58 by omega),AV,bne_iff_ne,ne_eq];by_cases c:0<=q.Bz
   .grind[AB]
   .grind
 grind[Xz,AB,GJ,Bw,AV,YB,B8]
theorem bW(j:Br h)(id:Int) :
 (bd (NM h id) λa=>
 br (decide (a<0))
  (some 7)
  (bd (at? h.AG a) λc=>
  br (c.State != 2)
   (some 13)
   (bd (at? h.AG a) λe=>
   bd (ABc e h.Now) λg=>
   br g
    (some 14)
    (jn JT ()))))=some (Kv h id):=by
 unfold Kv;rw[HR j,AB,BW]
 grind[Y1,R3,AB,AR9,Bw,JT,AV]
theorem HT(G:Br h)(q:Bp):TG h q=some (verdict h q):=by
 unfold TG verdict;rw[Fz G,AB,BM,Bw];by_cases g:C9 h=true
 .have hR:=Fm.1 g;have X:=hR.len;have Y:=hR.now;have ew:w64 ((h.AH.length:Int)-1)=(h.AH.length:Int)-1:=A7 (by omega) (by omega);rw[AW g,AW g];unfold IE;rw[GJ,AB,BM,Bw];cases inB q.Kind 1 7
  .rfl
  .simp only[if_true,DZ,if_false];rw[ACv,AB,BM,Bw];cases ha:KF q
   .rfl
   .have ⟨l1,l3,l7⟩:=AHF ha;have j:JT ()=some 0:=rfl;simp only[if_true,DZ,if_false];by_cases a:q.Kind=1
    .rw[AW a,Bw,AW (by simpa using a)];exact AF8 hR (l1 a).1 (l1 a).2
    rw[AT a,Bw,AT (by simpa using a)];by_cases H:q.Kind=2
    .rw[AW H,Bw,AW (by simpa using H),HR G,AB,BW,AV,j];split<;>rfl
    rw[AT H,Bw,AT (by simpa using H)];by_cases y:q.Kind=3
    .have hc:=l3 y;rw[AW y,Bw,AW (by simpa using y),Xz,AB,ew,GJ,AB,BM,BM,Bw,Bw,AV,j];by_cases Q:(h.AH.length:Int)<=q.AZ
     .rw[AT (by rw[B8];omega),AW Q]
     .rw[AW (by rw[B8];omega),AT Q,lN hc (by omega),AB,BW];cases inB q.BK 1 60<;>simp<;>split<;>rfl
    rw[AT y,Bw,AT (by simpa using y)];unfold iq;by_cases Z:q.Kind=4\/q.Kind=5
    .rw[AW Z];have:(q.Kind==4)=true\/(q.Kind==4)=false/\(q.Kind==5)=true:=by grind
     rcases this with e|⟨e,J⟩
     .rw[e,BT,AV,BT];exact bW G q.Id
     .rw[e,J,Bd,AV,BT];exact bW G q.Id
    .have e4:(q.Kind==4)=false:=by grind
     have J:(q.Kind==5)=false:=by grind
     rw[AT Z,e4,J,Bd,AV,Bd,Bw];by_cases I:q.Kind=6
     .rw[AW (by simpa using I),AW I,Bw,AV,j];by_cases c:1000000<=h.Now
      .rw[AW (by simp;omega),AW c]
      .rw[AT (by simp;omega),AT c]
     .rw[AT (by simpa using I),AT I,Bw];by_cases B:q.Kind=7
      .rw[AW (by simpa using B),AW B,BW];by_cases E:h.AQ.C4<=q.Id
       .rw[AW E,AW E]
       .rw[AT E,AT E];have ⟨n,hn⟩:=Ah (l7 B);have O:n<h.BB.length:=by have:=hR.Od;omega
        have L:=CC.1 hR.F8 _ (Ao O);rw[B8]at L;rw[hn,BQ O,AB,Af,BA,AR O,DE];unfold iu;simp only[Bw,AV,beq_iff_eq,j];by_cases S:h.BB[n] = -1
        .have:h.BB[n]<0:=by omega
         by_cases h3:h.BD.length=0<;>simp[S,h3,this]
        .have:¬h.BB[n]<0:=by omega
         simp[S,this]
      .rw[AT (by simpa using B),AT B,AV,j]
 .rw[AT g,AT g]
theorem WQ{l:List α}(a:0<=k)(c:k<l.length)(v:α):at? (l.set k.toNat v) k=some v:=by
 grind[BQ]
theorem RH.AWa(hR:RH h)(c:0<=k)(e:k<h.AH.length):LG (cbn h k).Row=true/\(cbn h k).Row.length<=10:=by
 obtain⟨n,rfl⟩:=Ah c;have a:=hR.cb (i:=n) (by omega);have q:=CL hR.rules;have j:=a.room;have g:=R5 h.AQ h.AG n h.Now;rw[a.row];exact⟨ADW hR.Ia (by omega),by omega⟩
theorem RH.AKw(hR:RH h)(a:0<=k)(c:k<h.AH.length):FP (cbn h k):=hR.fit.EN _ (VV a c)
theorem AGe(hR:RH h)(c:0<=GM h id)(q:(par h id).State=2):Ry ⟨(par h id).DM,id⟩=true/\(par h id).Id=id:=by
 have a:=hR.one c;have e:=FB a.okp;have j:=CL hR.rules;have g:=a.pid
 grind[Ry,B8]
theorem ALL(c:Br h)(id cabin frm size tier:Int):AIu h id cabin frm size tier=some (bY h id cabin frm size tier):=by
 unfold AIu ja bY;rw[HM c,AB,HT c,AB];simp only[Bw,bne_iff_ne,ne_eq];by_cases a:verdict h ⟨1,id,cabin,frm,size,tier⟩=0
 .rw[AT (not_not_intro a),AT (not_not_intro a)];have ⟨hJ,_,_,_⟩:=rQ a;have hR:=Gv a;have g:=(AHF (Q7 a).2).1 rfl;dsimp only at g;have ⟨H,q,y,G⟩:=Yv a;have I:=c.EA;have j:=hR.AWa q y;have ec:at? h.AH cabin=some (cbn h cabin):=F3 q y;have hJl:(M8 h id cabin frm size tier).AH.length=h.AH.length:=by unfold M8;dsimp only;split<;>simp[EX,Jf,HI,Cq]
  have hJr:=hJ.AWa (k:=cabin) q (by rw[hJl];exact y);have e:(cbn (M8 h id cabin frm size tier) cabin).Row=put ltE (FH h.AQ (IF h id cabin frm size tier) h.Now).1 (cbn h cabin).Row:=by
   grind[M8,zZ,cbn,HI,IF,Jf,Cq]
  rw[e]at hJr;rw[Pv c.CP,AB,Na (by omega),AB];simp only[ec,AB];have E:=VA (l:=(cbn h cabin).Row) (by omega) (FH h.AQ (IF h id cabin frm size tier) h.Now).1;rw[AW ⟨j.1,hJr.1⟩]at E;show bd (qN (cbn h cabin).Row (FH h.AQ (IF h id cabin frm size tier) h.Now).1) _=_;rw[E,AB];unfold M8;dsimp only;by_cases B:0<=frm
  .have hX:at? (h.AH.set cabin.toNat ⟨(cbn h cabin).AX,put ltE (FH h.AQ (IF h id cabin frm size tier) h.Now).1 (cbn h cabin).Row,(cbn h cabin).B5⟩) frm=some (cbn (HI ⟨h.AQ,h.Now,w64 (h.A4+1),LO h.AG (IF h id cabin frm size tier),h.AH,h.BD,h.BB⟩ (IF h id cabin frm size tier)) frm):=
    F3 (h:=HI ⟨h.AQ,h.Now,w64 (h.A4+1),LO h.AG (IF h id cabin frm size tier),h.AH,h.BD,h.BB⟩ (IF h id cabin frm size tier)) B (by simp only[HI,Cq,List.length_set];exact G)
   rw[AW (by omega),AW B,hX];simp only[AB,oC,AV,IX c.todo];rfl
  .rw[AT (by omega),AT B];simp only[AB,AV,IX c.todo];rfl
 .rw[AW a,AW a]
theorem AJy{p:AU}(c:p.Id=id)(e:-1<=p.Bz)(h:p.Bz<g.AH.length)(j:g.AG.length<=1048576) :
 (if p.Bz = -1 then some (Oy g (g.AG.eraseP λx=>x.Id==id)) else some (Oy (Cq g p.Bz ⟨(l8 (cbn g p.Bz).AX p.BK 0 0 0 (-1)).1,(cbn g p.Bz).Row,(cbn g p.Bz).B5⟩) (g.AG.eraseP λx=>x.Id==id)))=some (gone g p):=by
 unfold gone;rw[c];dsimp only;by_cases a:0<=p.Bz
 .rw[AT (by omega),AW a];rfl
 .rw[AW (by omega),AT a];rfl
theorem ACq(e:Br h)(id:Int):AIw h id=some (O9 h id):=by
 unfold AIw O9;rw[HM e,AB,HT e,AB];simp only[Bw,bne_iff_ne,ne_eq];by_cases E:verdict h ⟨2,id,0,0,0,0⟩=0
 .rw[AT (not_not_intro E),AT (not_not_intro E)];have ⟨Q,p0⟩:=UB E;have hR:=Fm.1 Q;have I:=hR.one p0;have c:=I.size;have J:=hR.len;have X:=FB I.okp;have H:=I.pid;have y:∀g:AE,g.AH.length=h.AH.length->g.AG=h.AG->XT id (par h id) g=some (gone g (par h id),0):=by
   intro g S q;have a:=AJy (g:=g) (p:=par h id) H (by omega) (by omega) (by rw[q];exact e.CP);unfold XT jg;have B:XS g.AG id=some (g.AG.eraseP λx=>x.Id==id):=Pu (by rw[q];exact e.CP) id;simp only[Bw,bne_iff_ne,ne_eq,AV];by_cases G:(par h id).Bz = -1
   .rw[AT (not_not_intro G),B,AB];rw[AW G]at a;rw[<-Option.some.inj a];rfl
   .have ef:at? g.AH (par h id).Bz=some (cbn g (par h id).Bz):=F3 (by omega) (by omega);rw[AW G];simp only[ef,AB,M7,B];rw[AT G]at a;rw[<-Option.some.inj a];rfl
  have ec:at? h.AH (par h id).AZ=some (cbn h (par h id).AZ):=F3 c.2.1.1 (by omega);have j:=hR.AKw c.2.1.1 (by omega);simp only[HR e,AB,RI p0,Gn,ec,beq_iff_eq,AV];unfold cancelled;dsimp only;by_cases s1:(par h id).State=1
  .rw[AW s1,AT (by omega),U9 j.1,AB];exact y (T9 h (par h id).AZ id) (by simp[T9,Cq]) rfl
  .have O:(par h id).State=2:=by omega
   have L:=AGe hR p0 O;rw[AT s1,AW O,Px j.2 L.1,AB];simp only[WQ c.2.1.1 (show (par h id).AZ<(h.AH.length:Int) by omega),AB,Te,IX e.todo,FT];have:=y (EX (dropped h (par h id)) (Q5 (dropped h (par h id)).BD (par h id).AZ)) (by simp[EX,dropped,Cq]) rfl;rw[<-this];unfold dropped;rw[L.2];rfl
 .rw[AW E,AW E]
theorem lF(c:Br h)(k n:Int):AIx h k n=some (bK h k n):=by
 unfold AIx bK;rw[HM c,AB,HT c,AB];simp only[Bw,bne_iff_ne,ne_eq];by_cases a:verdict h ⟨3,0,k,0,n,0⟩=0
 .rw[AT (not_not_intro a),AT (not_not_intro a)];have ⟨j,e,g⟩:=SK a;have ec:at? h.AH k=some (cbn h k):=F3 e g;simp only[ec,AB,Tf,IX c.todo];rfl
 .rw[AW a,AW a]
theorem AN0{X:AE}{p:AU}(a:0<=p.Bz)(c:p.Bz<X.AH.length):cbn (gone X p) p.Bz=⟨(l8 (cbn X p.Bz).AX p.BK 0 0 0 (-1)).1,(cbn X p.Bz).Row,(cbn X p.Bz).B5⟩:=by
 grind[gone,I1]
theorem ACn(g:Br h)(id:Int):AIz h id=some (O4 h id):=by
 unfold AIz O4 jj;rw[HM g,AB,HT g,AB];simp only[Bw,bne_iff_ne,ne_eq];by_cases e:verdict h ⟨4,id,0,0,0,0⟩=0
 .rw[AT (not_not_intro e),AT (not_not_intro e)];have ⟨G,p0⟩:=UA e;have hR:=Fm.1 G;have H:=hR.one p0;have c:=H.size;have B:=hR.len;have E:=(UD ((Gu e).2.2.2.1 (.inl rfl))).2;dsimp only at E;have j:=AGe hR p0 E;have ec:at? h.AH (par h id).AZ=some (cbn h (par h id).AZ):=F3 c.2.1.1 (by omega);have q:=hR.AKw c.2.1.1 (by omega);have y:XS h.AG id=some (h.AG.eraseP λx=>x.Id==id):=Pu g.CP id;simp only[HR g,AB,RI p0,Gn,ec,lM,WQ c.2.1.1 (show (par h id).AZ<(h.AH.length:Int) by omega),Px q.2 j.1,y,FT,AV];have hXl:(P2 h (par h id)).AH.length=h.AH.length:=by simp[P2,Cq]
  have hX:(P2 h (par h id)).AH=h.AH.set (par h id).AZ.toNat ⟨(l8 (cbn h (par h id).AZ).AX (par h id).BK 0 (-1) 1 0).1,(cbn h (par h id).AZ).Row,(Uy (cbn h (par h id).AZ).B5 ⟨(par h id).DM,id⟩).1⟩:=by unfold P2 Cq;rw[j.2]
  rw[<-hX];unfold accepted;dsimp only;by_cases a:0<=(par h id).Bz
  .have ef:at? (P2 h (par h id)).AH (par h id).Bz=some (cbn (P2 h (par h id)) (par h id).Bz):=F3 a (by omega);rw[AW (by omega),AW a,ef];simp only[AB,M7,WQ a (show (par h id).Bz<((P2 h (par h id)).AH.length:Int) by omega),Tf,IX g.todo,FT];unfold TS;rw[AN0 a (by omega)];unfold gone Cq;simp only[AW a,FT,j.2];rfl
  .rw[AT (by omega),AT a];unfold gone;simp only[AT a,j.2];rfl
 .rw[AW e,AW e]
theorem VC(hR:RH h)(p0:0<=GM h id)(Z:(par h id).State=2):ABo h id=some (I5 h (par h id)):=by
 have y:=hR.fit;have X:=hR.one p0;have E:=X.size;have S:=hR.len;have hs:=y.EA;have H:=AGe hR p0 Z;have c:=E.2.1.1;have a:(par h id).AZ<(h.AH.length:Int):=by omega
 have ec:at? h.AH (par h id).AZ=some (cbn h (par h id).AZ):=F3 c a;have J:=hR.AKw c a;have O:XS h.AG id=some (h.AG.eraseP λx=>x.Id==id):=Pu y.CP id;unfold ABo jK;simp only[HR y,AB,RI p0,Gn,ec,Te,WQ c a,Px J.2 H.1,ACt (show h.AQ.AX.length<2 ^ 62 by omega),FT,Bw,AV,O];have hXl:(dropped h (par h id)).AH.length=h.AH.length:=by simp[dropped,Cq]
 have hX:(dropped h (par h id)).AH=h.AH.set (par h id).AZ.toNat ⟨(l8 (cbn h (par h id).AZ).AX (par h id).BK 1 (-1) 0 0).1,(cbn h (par h id).AZ).Row,(Uy (cbn h (par h id).AZ).B5 ⟨(par h id).DM,id⟩).1⟩:=by unfold dropped Cq;rw[H.2]
 have hF:=Xi hR X Z;by_cases q:(E0 h.AQ (par h id) h.Now).2=true
 .have j:=bJ q;have e:I5 h (par h id)=HI (Oy (dropped h (par h id)) (LO h.AG (E0 h.AQ (par h id) h.Now).1)) (E0 h.AQ (par h id) h.Now).1:=by unfold I5;rw[AW q]
  have hrowX:cbn (dropped h (par h id)) (par h id).AZ=⟨(l8 (cbn h (par h id).AZ).AX (par h id).BK 1 (-1) 0 0).1,(cbn h (par h id).AZ).Row,(Uy (cbn h (par h id).AZ).B5 ⟨(par h id).DM,id⟩).1⟩:=by
   unfold dropped;rw[I1 c a c,AW rfl,H.2]
  have Q:=hR.AWa c a;have B:=hF.AWa c (by rw[(RS h _).Dt];exact a);have e2:(cbn (I5 h (par h id)) (par h id).AZ).Row=put ltE (FH h.AQ (E0 h.AQ (par h id) h.Now).1 h.Now).1 (cbn h (par h id).AZ).Row:=by
   rw[e];unfold HI;rw[j,I1 c (by show (par h id).AZ<((dropped h (par h id)).AH.length:Int);omega) c,AW rfl];show put ltE _ (cbn (dropped h (par h id)) (par h id).AZ).Row=_;rw[hrowX];rfl
  rw[e2]at B;have Y:=VA (l:=(cbn h (par h id).AZ).Row) (by omega) (FH h.AQ (E0 h.AQ (par h id) h.Now).1 h.Now).1;rw[AW ⟨Q.1,B.1⟩]at Y;simp only[q,if_true,Pv y.CP,AB,Na (show h.AQ.AX.length<2 ^ 62 by omega),Y];rw[e];unfold HI;rw[j]
  grind[Cq,Oy,dropped,par,cbn,put,ltE,List.set_set]
 .have I:(E0 h.AQ (par h id) h.Now).2=false:=by simpa using q
  have e:I5 h (par h id)=gone (dropped h (par h id)) (par h id):=by unfold I5;rw[AT q]
  have L:=AJy (g:=dropped h (par h id)) (p:=par h id) H.2 E.2.2.1.1 (by omega) y.CP;rw[e,<-L];simp only[I,BI,if_false,<-hX,bne_iff_ne,ne_eq];by_cases G:(par h id).Bz = -1
  .rw[AT (not_not_intro G),AW G];rfl
  .have ef:at? (dropped h (par h id)).AH (par h id).Bz=some (cbn (dropped h (par h id)) (par h id).Bz):=F3 (by omega) (by omega);rw[AW G,AT G,ef];simp only[AB,M7];rfl
theorem wV(c:Br h)(id:Int):AIn h id=some (Mm h id):=by
 unfold AIn Mm;rw[HM c,AB,HT c,AB];simp only[Bw,bne_iff_ne,ne_eq];by_cases a:verdict h ⟨5,id,0,0,0,0⟩=0
 .rw[AT (not_not_intro a),AT (not_not_intro a)];have ⟨g,p0⟩:=SX a;have hR:=Fm.1 g;have e:=(UD ((Gu a).2.2.2.1 (.inr rfl))).2;dsimp only at e;have hF:=Xi hR (hR.one p0) e;simp only[HR c,AB,RI p0,VC hR p0 e,IX hF.fit.todo];rfl
 .rw[AW a,AW a]
theorem ANT{n:Nat}{x:AE}(H:Sm n h)(J:x.AH.length=h.AH.length)(q:∀c:Int,DW h.AG c<=19)(Q:n+h.AH.length<=1048576):BE (XP x) big (0,h)=some (LK h.AH.length 0 h,0):=by
 generalize a:h.AH.length=len at *;refine(DI (F:=XP x) (n:=len) (λi (v:AE)=>((i:Int),v)) (λi v=>Sm (n+i) v/\v.AH.length=len/\v.AG=h.AG) (λi v=>some (LK (len-i) i v,0)) (by omega) ?_ (v:=h) ⟨H,a,rfl⟩).trans (by rw[FU]);intro L i v ⟨G,E,g⟩ hi O;have y:=G.fit (by omega);unfold XP;dsimp only;rw[J];rcases Aa i len with j|j
 .have S:=y.EA;have I:=y.CP;rw[CF j,BT,Rk (by omega) I (by rw[g];exact q _),AB,F3 (by omega) (by omega),AB,AB,Rj (by omega),AB];have e:LK (len-i) i v=LK (len-(i+1)) (i+1) (Li v i):=by rw[show len-i=(len-(i+1))+1 by omega];rfl
  rw[e];have B:=O (Li v i) ⟨by have:=nV G i;rw[Nat.add_assoc]at this;exact this,by rw[sa];exact E,by rw[AEC.Ia];exact g⟩ j;rw[<-B];unfold jL Li;simp only[BW,gt_iff_lt,AV,B1 j (show len<2 ^ 63 by omega),Af,IX y.todo,AB];split<;>rfl
 .have:i=len:=by omega
  subst this;rw[C0,Bd,AV,Nat.sub_self];rfl
theorem ALR(g:Br h):AIo h=some (cF h):=by
 unfold AIo cF;rw[HM g,AB,HT g,AB];simp only[Bw,bne_iff_ne,ne_eq];by_cases e:verdict h ⟨6,0,0,0,0,0⟩=0
 .have hR:=Gv e;have a:=hR.sm;have j:=hR.len;have y:=CL hR.rules;have q:Sm 1000 ⟨h.AQ,w64 (h.Now+1),h.A4,h.AG,h.AH,h.BD,h.BB⟩:=⟨a.EA,a.CP,a.Dt,a.EN,a.todo,a.F8⟩;rw[AT (not_not_intro e),AT (not_not_intro e)];exact ANT (x:=h) q rfl (λc=>by have:=hR.cnt c;show DW h.AG c<=19;omega) (by show 1000+h.AH.length<=1048576;omega)
 .rw[AW e,AW e]
theorem wy{w:A2}(a:DY w)(now:Int):AIp w now=some ((E6 w).filter λp=>decide (p.At<=now)):=by
 have hlim:lim=268435456:=rfl;have c:=Ib a;unfold AIp;rw[PQ a,AB,collect (l:=E6 w) (λp=>if p.At<=now then some p else none) some c ?_ ?_]
 .congr 1;generalize E6 w=l
  induction l<;>grind
 .grind[jO,jN,BQ,AB,BW,AV,CE]
 grind[jO,ABq,Bd,AV]
theorem VD(hR:RH h){k:Nat}(c:k<h.AH.length):ABp h k=some true:=by
 have a:=hR.len;unfold ABp jM;rw[Fz hR.fit,Fm.2 hR,AB,BT,Xz,AB,AV,A7 (by omega) (by omega),B8.2 (by omega)]
theorem AF4(hR:RH h){k:Nat}(c:k<h.AH.length):AIq h k=some (kQ (cbn h k).B5 h.Now):=by
 have hlim:lim=268435456:=rfl;have a:=(hR.AKw (k:=(k:Int)) (by omega) (by omega)).2;have e:=Ib a;unfold AIq;rw[VD hR c,AB,BM,BT,show at? h.AH (k:Int)=some (cbn h k) from F3 (by omega) (by omega),AB,wy a,AB];generalize hD:(E6 (cbn h k).B5).filter (λp=>decide (p.At<=h.Now))=D;have hDl:D.length<=1048576:=by rw[<-hD];exact Aw (List.length_filter_le _ _) e
 rw[collect (l:=D) (λp=>some p.Id) some hDl ?_ ?_]
 .unfold kQ;rw[<-hD];congr 1;generalize E6 (cbn h k).B5=l
  induction l<;>grind
 .grind[jP,BT,BQ,AB,CE]
 grind[jP,ABr,Bd,AV]
theorem ACs(hR:RH h){k:Nat}(g:k<h.AH.length):AIr h k=some (Xh h k):=by
 have ⟨hO,E⟩:=TO hR g;unfold AIr Xh;rw[HM hR.fit,AB,AF4 hR g,AB];generalize kQ (cbn h k).B5 h.Now=D at *;refine(DI (F:=jQ D) (n:=D.length) (λi (v:AE)=>((i:Int),v)) (λi v=>RH v/\AKn v (D.drop i)) (λi v=>some (UW (D.drop i) v)) (by omega) ?_ (v:=h) ⟨hR,hO⟩);rintro L i v ⟨j,c⟩ hi y;unfold jQ ABs;dsimp only;rcases Aa i D.length with a|q
 .rw[Dl a]at c ⊢;have e:=c.2 D[i] (BJ ..);have ⟨s1,B,_⟩:=Vd j c;simp only[CF a,BT,BQ a,AB,VC j e.1 e.2,B1 a (show D.length<2 ^ 63 by omega)];exact y _ ⟨s1,B⟩ a
 .obtain rfl:i=D.length:=by omega
  rw[C0,Bd,AV,Ck];rfl
theorem w7(p:AU)(now:Int):AIs p now=some (bn p now):=by
 unfold AIs jR bn;rw[AV,AV,Cn]
theorem n9(a:l.length<=1048576){skip:List Int}(c:skip.length<=1048576)(free:Int):AI4 l free skip=some (atF (ACa free skip) l 0):=by
 unfold AI4 AOd;rw[RG (l:=l) (p:=ACa free skip) (by omega) ?_ ?_,AB]
 .intro L i h;unfold jt AOS jS ACa
  grind[BT,BQ,AB,Ps,AV,Cn]
 grind[jt,AB0,Bd,AV]
theorem lG(hR:RH h){k:Nat}(e:k<h.AH.length):AI5 h k=some (FA h k):=by
 have hlim:lim=268435456:=rfl;have c:=hR.fit;have a:=c.CP;have j:(my h).length<=1048576:=Aw (List.length_filterMap_le _ _) a;have g:=(hR.AKw (k:=(k:Int)) (by omega) (by omega)).1;unfold AI5;rw[VD hR e,AB,BM,BT,collect (l:=h.AG) (λp=>if bn p h.Now=true then some p.Id else none) (jv h k) a ?_ ?_]
 .grind[jv,at?,cbn,AB,my,n9,VF,FA,BW,tH]
 .grind[jw,ju,BQ,AB,w7,Bw,AV,CE]
 grind[jw,Bd,AV]
theorem AF5(hR:RH h){k:Nat}(g:k<h.AH.length):AI7 h k=some (if FA h k=0 then (h,0) else (I9 h k (FA h k),FA h k)):=by
 have a:=hR.fit;unfold AI7;rw[HM a,AB,lG hR g,AB,Bw];by_cases c:FA h k=0
 .grind
 .have ⟨j,q,y,B,E⟩:=mA hR g c;have e:=hR.AKw (k:=(k:Int)) (by omega) (by omega);have ec:at? h.AH (k:Int)=some (cbn h k):=F3 (by omega) (by omega);rw[AT (by simpa using c),AT c];simp only[HR a,AB,RI j,Gn,ec,lL,WQ (show 0<=(k:Int) by omega) (show (k:Int)<(h.AH.length:Int) by omega),U9 e.1,Pv a.CP,FT,VB e.2];rfl
theorem AM9(hR:RH h){k:Nat}(y:k<h.AH.length):BE (XV k) big ([],h)=some (Oo k 10 h []):=by
 have hlim:lim=268435456:=rfl;refine Z3 (F:=XV k) (λx=>some (Oo k (10-x.1.length) x.2 x.1)) (λx=>RH x.2/\k<x.2.AH.length/\x.1.length+(cbn x.2 k).Row.length<=10) (λx=>(cbn x.2 k).Row.length) ?_ (x:=([],h)) ⟨hR,y,by have:=di hR y;simpa using this⟩ (by have:=di hR y;show (cbn h k).Row.length<_;omega);rintro L ⟨a,g⟩ ⟨q,c,e⟩ E;dsimp only at q c e E ⊢;unfold XV;dsimp only;rw[AF5 q c,AB];by_cases j:FA g k=0
 .grind[AKY,BT]
 .have ⟨s1,H⟩:=Vv q c j;have B:=ADC j;rw[AT j];dsimp only;have G:(FA g k==0)=false:=by simpa using j
  rw[G,Bd,CE (by simp only[AI,AM];omega),E (a++[FA g k],I9 g k (FA g k)) ⟨s1,by rw[(Ru g k _).Dt];exact c,by simp only[AJ,AI,AM];omega⟩ (by dsimp only;omega)];congr 1;rw[show 10-a.length=(10-(a++[FA g k]).length)+1 by simp only[AJ,AI,AM];omega]
  conv=>rhs;unfold Oo
  rw[AT j]
theorem ALO(hR:RH h){k:Nat}(a:k<h.AH.length):AI8 h k=some (KV h k):=by
 have ⟨c,e⟩:=RR hR (TO hR a).1;unfold AI8;rw[ACs hR a,AB];exact AM9 c (by rw[e.Dt];exact a)
theorem ALN(q:Br h)(who:Int):AI9 h who=some (VH h who):=by
 unfold AI9 VH;rw[HM q,AB,HT q,AB];simp only[Bw,bne_iff_ne,ne_eq,beq_iff_eq];by_cases a:verdict h ⟨7,who,0,0,0,0⟩=0
 .rw[AT (not_not_intro a),AT (not_not_intro a)];have hR:=Gv a;have G:=hR.len;have ⟨n,c,e,L⟩:=SL rfl a;dsimp only at e;subst e;have eg:h.BB.getD n 0=h.BB[n]:=by rw[BA,AR c];rfl
  have y:=CC.1 hR.F8 _ (Ao c);rw[B8]at y;unfold Vy;simp only[BQ c,AB,Af,eg];by_cases g:h.BB[n]<0
  .have j:h.BB[n] = -1:=by omega
   rw[AW j,AW g];have H:0<h.BD.length:=by
    grind
   have I:h.BD.getD 0 0=h.BD[0]:=by rw[BA,AR H];rfl
   have O:=q.todo;have J:List.take (h.BD.length-Int.toNat 1) (List.drop (Int.toNat 1) h.BD)=h.BD.drop 1:=BC (by rw[BH];exact Ab _);rw[WR,AR H,AB,AB,CE ⟨by omega,by omega⟩,I,J];rfl
  .have j:¬h.BB[n] = -1:=by omega
   rw[AT j,AT g];have ⟨k,E,ek⟩:=hR.job c g;have ⟨s1,Q,S⟩:=V5 hR E;have B:n<(KV h k).1.BB.length:=by rw[Q.F8];exact c
   rw[ek,ALO hR E,AB,BQ B,AB,AB];rfl
 .rw[AW a,AW a]
theorem AVz(a:Br h)(q:Bp):AJA h q=some (doF h q):=by
 grind[AJA,doF,Mk,HM,HT,AB,ALL,ACq,lF,ACn,wV,ALR,ALN,Bw,AV]
theorem Vq(q:Br h){l:List Bp}(G:l.length<=1048576):qU h l=some (D7 l h):=by
 have hlim:lim=268435456:=rfl;unfold qU;rw[HM q,AB];refine(DI (F:=jy l) (n:=l.length) (λi (v:List Cw×AE)=>(v.1,(i:Int),v.2)) (λi v=>Br v.2/\v.1.length=i) (λi v=>some ((D7 (l.drop i) v.2).1,v.1++(D7 (l.drop i) v.2).2)) (by omega) ?_ (v:=([],h)) ⟨q,rfl⟩).trans ?_
 .rintro L i ⟨a,g⟩ ⟨e,j⟩ hi y;dsimp only at e j y ⊢;unfold jy AB1;dsimp only;rcases Aa i l.length with c|E
  .have B:=yQ e l[i];rw[Dl c];simp only[CF c,BT,BQ c,AB,AVz e,B1 c (show l.length<2 ^ 63 by omega)];rw[CE (by simp only[AI,AM];omega)];have:=y (a++[(doF g l[i]).2],(doF g l[i]).1) ⟨B.2.1,by simp[j]⟩ c;dsimp only at this;rw[this];simp only[D7,BP,List.singleton_append]
  .grind[Bd,AV,D7]
 .simp
structure OA(w:CQ):Prop where
 Pk:Ch w.Ar
 done:w.Kt.length<=1048576
 AWY:w.Ei.length<=1048576
 ids:∀r∈w.Ei,r.Ids.length<=1048576
def Ha(r:AY):CQ×Bool:=if (Fk r).2=true then (⟨(Fk r).1,[],[],0⟩,true) else (⟨KU,[],[],0⟩,false)
theorem l9(a:r.AX.length<=1048576):AAn r=some (Ha r):=by
 unfold AAn Ha;rw[AC9 a,AB,BM,Bw];split<;>rfl
theorem yy(e:r.AX.length<=1048576):OA (Ha r).1:=by
 have a:=U6 e;unfold Ha;split
 .exact⟨a,by simp,by simp,by simp⟩
 .rename_i c;unfold Fk at a c;split at a
  .grind
  .exact⟨a,by simp,by simp,by simp⟩
def Mx(a:B4):B4:=if Ec a=true then ⟨a.Data,a.Data.length⟩ else a
theorem N6(a:B4):qJ a=some (Mx a):=by
 grind[qJ,jJ,Mx,IJ,AB,Bw,AV]
theorem rN(a:B4):gJ a=some (Mx a):=by
 unfold gJ Mx;rw[FZ,AB,BM,Bw];split<;>rfl
def LJ(e:A6):A6×List Cw:=
 if C8 e=false then (e,[]) else (⟨(D7 e.Laid e.Av).1,⟨Mx e.An.Log,e.An.Eo,e.An.Odd⟩,e.Seq,[]⟩,(D7 e.Laid e.Av).2)
theorem ANN(a:Ch e):AIY e=some (LJ e):=by
 unfold AIY LJ;rw[G5 a,AB,FN a,AB,BM,Bw];by_cases c:C8 e=true
 .rw[AW c,AT (by simp[c]),Ou a.D9 a.laid,AB,N6,AB]
 grind
theorem ALP(a:Ch e):AJB e=some (LJ e):=by
 unfold AJB LJ;rw[eJ a,AB,Pt a,AB,BM,Bw];by_cases c:C8 e=true
 .rw[AW c,AT (by simp[c]),rN,AB,Vq a.D9 a.laid,AB]
 grind
theorem SG(a:B4):(Mx a).Data=a.Data:=by unfold Mx;split<;>rfl
theorem sP(a:Ch e):Ch (LJ e).1/\(LJ e).2.length<=1048576/\∀r∈(LJ e).2,r.Ids.length<=1048576:=by
 unfold LJ;split
 .grind
 .have ⟨c,j,g⟩:=IA e.Laid a.D9;have q:=a.laid;exact⟨⟨c,by dsimp only;rw[SG];exact a.log,a.even,a.odd,by simp⟩,by dsimp only;omega,λr h=>by have:=g r h;omega⟩
theorem ASN{q:Bp}(h:(K8 e q).2≠0):(K8 e q).1=e:=by
 unfold K8 at h ⊢
 grind
theorem rS{q:Bp}(h:(K8 e q).2=0):C8 (K8 e q).1=true/\C8 e=true/\KF q=true/\(K8 e q).1.Av=e.Av/\(K8 e q).1.Laid=e.Laid++[q]/\(K8 e q).1.Seq=e.Seq+1:=by
 unfold K8 at h ⊢;by_cases a:C8 e=false
 .rw[AW a]at h;cases h
 rw[AT a]at h ⊢;rw[Er]at a;by_cases c:KF q=false
 .rw[AW c]at h;cases h
 rw[AT c]at h ⊢;rw[Er]at c;by_cases j:e.Seq=1000000
 .rw[AW j]at h;cases h
 rw[AT j]at h ⊢;by_cases g:e.Laid.length=8\/(Ez e.An.Log (frB (w64 (e.Seq+1)) (FR q))).2=false
 .rw[AW g]at h;cases h
 rw[AT g];have B:=EV a;have ew:w64 (e.Seq+1)=e.Seq+1:=A7 (by omega) (by omega);rw[ew]at g ⊢;have y:Ec (Ez e.An.Log (frB (e.Seq+1) (FR q))).1=true:=by
  grind[Ez,Db]
 grind[C8,B8,Fq]
def R6(a b:AY):Bool:=Eu (·==·) a.AX b.AX&&(a.CZ==b.CZ&&(a.Room==b.Room&&(a.BK==b.BK&&(a.CI==b.CI&&(a.B6==b.B6&&(a.Rest==b.Rest&&(a.Cg==b.Cg&&a.C4==b.C4)))))))
theorem nA{a b:AY}(c:a.AX.length<2 ^ 62):qD a b=some (R6 a b):=by
 unfold qD JS R6;rw[Je c,AB];simp only[AV,Cn]
theorem lJ{a b:AY}(c:a.AX.length<2 ^ 62):AJJ a b=some (R6 a b):=by
 unfold AJJ KG R6;rw[PN c,AB];simp only[AV,Cn]
def nk(a b:A2):Bool:=HL a&&(HL b&&Eu eqP (E6 a) (E6 b))
theorem nB{a b:A2}(c:DY a)(e:DY b):qE a b=some (nk a b):=by
 have g:=Ib c;unfold qE TC nk;simp only[HY c,HY e,Mw c,Mw e,P5 (show (E6 a).length<2 ^ 62 by omega),AB,AV,Cn]
theorem lK{a b:A2}(c:DY a)(e:DY b):AJL a b=some (nk a b):=by
 have g:=Ib c;unfold AJL Xa nk;simp only[IY c,IY e,PQ c,PQ e,bR (show (E6 a).length<2 ^ 62 by omega),AB,AV,Cn]
def AX9(a b:BN):Bool:=a.Total==b.Total&&(a.D1==b.D1&&(a.FL==b.FL&&(a.GA==b.GA&&(a.GZ==b.GZ&&true))))
def zR(a b:Ag):Bool:=Lj a&&(Lj b&&(AX9 a.AX b.AX&&(Eu eqE a.Row b.Row&&nk a.B5 b.B5)))
theorem m9{a b:Ag}(c:FP a)(e:FP b):qF a b=some (zR a b):=by
 have g:=c.1;unfold qF ON zR AX9;simp only[Nn c,Nn e,SD (show a.Row.length<2 ^ 62 by omega),nB c.2 e.2,AB,AV,Cn]
theorem lI{a b:Ag}(c:FP a)(e:FP b):AJM a b=some (zR a b):=by
 have g:=c.1;unfold AJM QV zR AX9;simp only[Ri c,Ri e,bQ (show a.Row.length<2 ^ 62 by omega),lK c.2 e.2,AB,AV,Cn]
def AVo(x y:AU):Bool:=x.Id==y.Id&&(x.AZ==y.AZ&&(x.Bz==y.Bz&&(x.BK==y.BK&&(x.DS==y.DS&&(x.Since==y.Since&&(x.A4==y.A4&&(x.State==y.State&&(x.DM==y.DM&&(x.Dm==y.Dm&&true)))))))))
def OX(a b:AE):Bool:=
 C9 a&&(C9 b&&(R6 a.AQ b.AQ&&(a.Now==b.Now&&(a.A4==b.A4&&(Eu AVo a.AG b.AG&&(Eu (·==·) a.BD b.BD&&(Eu (·==·) a.BB b.BB&&Eu zR a.AH b.AH)))))))
theorem Td{a b:AE}(c:Br a)(g:Br b):ACA a b=some (OX a b):=by
 have y:=c.EA;have B:=c.CP;have E:=c.Dt;have G:=c.todo;have H:=c.F8;have j:AJN a.AH b.AH=some (Eu zR a.AH b.AH):=by
  unfold AJN;refine T0 (by omega) ?_ ?_
  .intro L i h e;unfold kH;rw[CF h,BT,BQ h,AB,BQ e,AB,lI (c.EN _ (Ao h)) (g.EN _ (Ao e)),AB]
  .intro L;unfold kH AB9;rw[C0,Bd,AV]
 have q:AJK a.AG b.AG=some (Eu AVo a.AG b.AG):=by
  unfold AJK;refine T0 (by omega) ?_ ?_
  .intro L i h e;unfold kG;rw[CF h,BT,BQ h,AB,BQ e,AB];rfl
  .intro L;unfold kG AB8;rw[C0,Bd,AV]
 unfold ACA KH OX;simp only[Fz c,Fz g,lJ (show a.AQ.AX.length<2 ^ 62 by omega),q,j,PN (show a.BD.length<2 ^ 62 by omega),PN (show a.BB.length<2 ^ 62 by omega),AB,AV,Cn]
theorem sO{eq:α->α->Bool}{a b:List α}{F:(Int->AA Bool)->Int->AA Bool}{E:Bool}(c:a.length<2 ^ 63)(e:a.length=b.length)
 (step:∀L i (h:i<a.length) (j:i<b.length),F L (i:Int)=br (!(eq a[i] b[i])) (some false) (L (w64 ((i:Int)+1)))) (stop:∀L,F L (a.length:Int)=some E):BE F big 0=some (Eu eq a b&&E):=by
 refine(DI (n:=a.length) (λi (_:Unit)=>(i:Int)) (λ_ _=>True) (λi _=>some (Eu eq (a.drop i) (b.drop i)&&E)) c ?_ (v:=()) trivial);intro L i _ _ hi g;rcases Aa i a.length with h|h
 .rw[step L i h (by omega),B1 h c,Dl h,Dl (l:=b) (i:=i) (by omega),Eu,BM];cases eq a[i] b[i] with|true=>rw[BT,g () trivial h];rfl|false=>rfl
 .obtain rfl:i=a.length:=by omega
  rw[stop,Ck,A1 (by omega)];rfl
theorem AGo{a b:AY}:R6 a b=true↔a=b:=by
 unfold R6;have ⟨s,c,e,a3,a4,g,h,j,q⟩:=a;have ⟨t,y,B,E,G,H,I,J,L⟩:=b
 grind[ID,AY.mk.injEq]
theorem Jd{a b:AE}(c:Br a)(E:Br b):bB a b=some (OX a b):=by
 have O:=c.EA;have Q:=c.CP;have S:=c.Dt;have X:=c.todo;have Y:=c.F8;have G:Ik a b true=some false:=rfl;have J:C9 a=true->C9 b=true->R6 a.AQ b.AQ=true->a.AG.length=b.AG.length->Ik a b false=some (Eu AVo a.AG b.AG&&Eu zR a.AH b.AH):=by
  intro gA gB gR gp;have B:a.AH.length=b.AH.length:=by
   have j:=(Fm.1 gA).Dt;have e:=(Fm.1 gB).Dt;rw[j,e,AGo.1 gR]
  unfold Ik;rw[Bd];refine sO (by omega) gp ?_ ?_
  .intro L i h g;unfold XI;rw[CF h,BT,BQ h,AB,BQ g,AB];rfl
  .intro L;unfold XI TD;rw[C0,Bd,AV,<-CK (Eu zR a.AH b.AH)];refine sO (by omega) B ?_ ?_
   .intro L i h g;unfold QS;rw[CF h,BT,BQ h,AB,BQ g,AB,m9 (c.EN _ (Ao h)) (E.EN _ (Ao g)),AB]
   .intro L;unfold QS iY;rw[C0,Bd,AV]
 unfold bB OX;rw[Gm c,AB,Gm E,AB,nA (by omega),AB,Je (by omega),AB,Je (by omega),AB];simp only[AV,G,BM];cases gA:C9 a
 .rfl
 cases gB:C9 b
 .rfl
 cases gR:R6 a.AQ b.AQ
 .rfl
 simp only[BT,Ce];by_cases n:a.Now=b.Now
 .by_cases t:a.A4=b.A4
  .by_cases p:a.AG.length=b.AG.length
   .have j:(a.Now != b.Now)=false:=by simp[n]
    have e:(a.A4 != b.A4)=false:=by simp[t]
    have q:((a.AG.length:Int) != (b.AG.length:Int))=false:=by simp[p]
    have H:(a.Now==b.Now)=true:=by simp[n]
    have y:(a.A4==b.A4)=true:=by simp[t]
    rw[j,e,q,H,y,Bd,Bd,Bd,Ce,Ce];cases Eu (·==·) a.BD b.BD
    .simp
    .cases Eu (·==·) a.BB b.BB
     .simp[G]
     .rw[BT,Bq,J gA gB gR p,Ce,Ce]
   .have q:((a.AG.length:Int) != (b.AG.length:Int))=true:=by simp;omega
    have I:Eu AVo a.AG b.AG=false:=mo p;rw[q,BT,WT,WT,I];simp
  .have e:(a.A4 != b.A4)=true:=by simpa using t
   have y:(a.A4==b.A4)=false:=by simpa using t
   rw[e,BT,WT,y];simp
 grind[BT]
theorem RD(s:Bo):∃c,Jw s=some c/\U5 s=some c/\(c = -1\/c=0\/c=1):=by
 have ⟨r,h,j,_⟩:=FM s 0;have ⟨r',q,y,_⟩:=FM s 1;unfold Jw U5 S9 XH TB;rw[h,j,q,y,AB,AB,AB,AB];cases e:r.2.2<;>cases g:r'.2.2<;>simp only[BM,BT,Bd,AV,e,g,Bq,EM]
 .grind
 .exact⟨_,rfl,rfl,by decide⟩
 .exact⟨_,rfl,rfl,by decide⟩
 .by_cases a:r.2.1>=r'.2.1
  .rw[show decide (r.2.1>=r'.2.1)=true from decide_eq_true a,show decide (r'.2.1>r.2.1)=false from decide_eq_false (by omega)];exact⟨_,rfl,rfl,by decide⟩
  .rw[show decide (r.2.1>=r'.2.1)=false from decide_eq_false a,show decide (r'.2.1>r.2.1)=true from decide_eq_true (by omega)];exact⟨_,rfl,rfl,by decide⟩
def Se(s:Bo)(k:Int)(a:B4):Bo:=if (k.tmod 2==0)=true then ⟨s.Log,a,s.Odd⟩ else ⟨s.Log,s.Eo,a⟩
theorem Nq(s:Bo)(k:Int)(a:B4):AJD s k a=some (Se s k a):=by unfold AJD Se;rw[Bw,AV,AV];split<;>rfl
theorem w5(s:Bo)(k:Int)(a:B4):qV s k a=some (Se s k a):=by unfold qV Se;rw[Bw,AV,AV];split<;>rfl
theorem Qx(s:Bo)(l:B4)(k:Int):Se ⟨l,s.Eo,s.Odd⟩ k (Cd s k)=⟨l,s.Eo,s.Odd⟩:=by unfold Se Cd;split<;>rfl
def NS(a:B4)(p:Int):B4×Bool:=if Ec a=true/\inB p 0 a.Data.length=true/\a.Safe=a.Data.length then (⟨a.Data.drop p.toNat,(a.Data.length:Int)-p⟩,true) else (a,false)
theorem Um(a:B4)(p:Int):AJC a p=some (NS a p):=by
 grind[AJC,XW,NS,IJ,AB,GX,AV,Bw,Ec,inB,CE,A7]
theorem ALQ(a:B4)(p:Int):AJE a p=some (NS a p):=by
 grind[AJE,XX,NS,FZ,AB,GJ,AV,Bw,Ec,inB,CE,A7]
theorem ANH(h:(NS a p).2=false):(NS a p).1=a:=by unfold NS at h ⊢;grind
theorem sR(a:B4)(p:Int):(NS a p).1.Data.length<=a.Data.length:=by unfold NS;split<;>simp
theorem zF{s:List UInt8}(h:(Ez a s).2=false):(Ez a s).1=a:=by unfold Ez at h ⊢;grind
theorem R8(a:Ch e)(k:Int):(Cd e.An k).Data.length<=1048576:=by unfold Cd;split;exact a.even;exact a.odd
theorem YP(c:Ch e)(h:a.Data.length<=1048576):Ch ⟨e.Av,Se e.An k a,e.Seq,e.Laid⟩:=by
 unfold Se;split<;>exact⟨c.D9,c.log,by first|exact h|exact c.even,by first|exact h|exact c.odd,c.laid⟩
theorem U0{e:A6}(a:Ch e)(p:Int):∃r,I4 e p=some r/\AB4 e p=some r/\Ch r.1:=by
 have ⟨n,B,E,J⟩:=RD e.An;have ⟨r,G,H,_⟩:=FM e.An n;unfold I4 AB4;rw[G5 a,eJ a,E,FN a,Pt a,GX,Xz,show w64 (4-1)=3 from rfl];simp only[AB,AV];cases I:C8 e with
 |false=>exact⟨(e,false),rfl,rfl,a⟩|true=>
 simp only[Bq,Bd];by_cases j:(e.Laid.length:Int)>0
 .rw[decide_eq_true j];exact⟨(e,false),rfl,rfl,a⟩
 rw[decide_eq_false j,Bd,Bd];cases hi:inB p 0 3 with
 |false=>exact⟨(e,false),rfl,rfl,a⟩|true=>
 simp only[Bq,Bd];unfold OO TI Ml TJ;rw[Bd,B,AB];by_cases q:n<0
 .rw[decide_eq_true q,BT,BT];exact⟨(e,false),rfl,rfl,a⟩
 have g:=R8 a (w64 (1-n));have c:=λs=>ACp (s:=s) g
 simp only[decide_eq_false q,Bd,IK,JW,AB,Nq,w5,AV,Is a.D9,Pw a.D9,Mv (Aw (FE e.Av e.Seq) (by omega)),c _ (Aw (FE e.Av e.Seq) (by omega)),N6,rN,G,H,No a.log,wu a.log,Um,ALQ,G5 a,BM,BT];have y:∀k,Se e.An k (Cd e.An k)=e.An:=λk=>Qx e.An e.An.Log k
 cases p==0 with
 |true=>exact⟨_,rfl,rfl,YP a (by simp)⟩|false=>
 rw[Bd,Bd];cases p==1 with
 |true=>
  rw[BT,BT];cases h:(Ez (Cd e.An (w64 (1-n))) (DC e.Av e.Seq)).2 with
  |true=>exact⟨_,rfl,rfl,YP a (ag g)⟩|false=>exact⟨(e,false),rfl,by rw[zF h,y],a⟩
 |false=>
 rw[Bd,Bd];cases p==2 with
 |true=>exact⟨_,rfl,rfl,YP a (by rw[SG];exact g)⟩|false=>
 rw[Bd,Bd];cases h:(NS e.An.Log (WG r.2.1 0 (EF e.An.Log.Data))).2 with
 |true=>exact⟨_,rfl,by rw[Qx],by dsimp only;rw[Qx];exact⟨a.D9,Aw (sR _ _) a.log,a.even,a.odd,a.laid⟩⟩|false=>exact⟨(e,false),rfl,by rw[ANH h],a⟩
def aft:Int->List B3->List B3|_,[]=>[]|v,f::l=>if f.Seq<=v then aft v l else if f.Seq=v+1 then f::aft (v+1) l else []
def AU4(f:B3):Prop:=1<=f.Seq/\f.Seq<=1000000/\f.Body.length<=60
theorem AO0:∀(f:Nat) (s:List UInt8) (i:Int),∀x∈frs f s i,AU4 x
 |0,s,i,x,c=>by simp[frs]at c|f+1,s,i,x,c=>by
  unfold frs at c;split at c
  .rename_i h;rcases Ad.1 c with e|e
   .rw[e];unfold Pl at h ⊢;split at h
    .rename_i hi;rw[AW hi];rcases RX (s.drop i.toNat) i with ⟨q,b,a,y,g⟩|⟨j,g⟩
     .rw[g];exact⟨a.1.1,a.1.2,a.2.2⟩
     .rw[g]at h;simp at h
    .simp at h
   .exact AO0 f s _ x e
  .simp at c
theorem ZQ(s:List UInt8):∀x∈EF s,AU4 x:=AO0 _ _ _
theorem cU:∀(l:List B3) (v:Int),(aft v l).length<=l.length
 | [],v=>by simp[aft]|f::l,v=>by
  unfold aft;have:=cU l v;have:=cU l (v+1)
  grind
theorem s6:∀(l:List B3) (v:Int),∀x∈aft v l,x∈l
 | [],v,x,a=>by simp[aft]at a|f::l,v,x,a=>by
  unfold aft at a;have c:=s6 l v x;have e:=s6 l (v+1) x
  grind
theorem AGy{l:List B3}(E:l.length<=1048576)(y:∀f∈l,AU4 f)(B:0<=p/\p<=1000000):AJG l p=some (aft p l):=by
 have hlim:lim=268435456:=rfl;unfold AJG;refine(DI (n:=l.length) (λi (v:Int×List B3)=>(v.1,v.2,(i:Int))) (λi v=>v.2.length<=i/\0<=v.1/\v.1<=1000000) (λi v=>some (v.2++aft v.1 (l.drop i))) (by omega) ?_ (v:=(p,[])) (by simpa using B)).trans (by simp);rintro L i ⟨v,acc⟩ ⟨q,a,c⟩ hi j;unfold AB5 j7 j8;dsimp only at q a c ⊢;simp only[dec_lt,AV];rcases Aa i l.length with h|h
 .have ⟨G,H,I⟩:=y _ (Ao h);rw[decide_eq_true h,BT,BQ h,AB,AB,AB,AB,Dl h,B1 h (by omega),BW,A7 (by omega) (by omega)];unfold aft;by_cases e:l[i].Seq<=v
  .rw[AW e,AW e];exact j (v,acc) ⟨by dsimp only;omega,a,c⟩ h
  .rw[AT e,AT e];by_cases g:l[i].Seq=v+1
   .rw[AW g,show (l[i].Seq-1 != v)=false by rw[bne_eq_false_iff_eq];omega,Bd,CE (by simp only[AI,AM];omega)];have:=j (l[i].Seq,acc++[l[i]]) ⟨by simp;omega,by dsimp only;omega,by dsimp only;omega⟩ h;rw[this,g];simp
   grind[BT]
 .rw[decide_eq_false (by omega),Bd,A1 h];simp[aft]
theorem AF3{l:List B3}(E:l.length<=1048576)(y:∀f∈l,AU4 f)(B:0<=p/\p<=1000000):AIJ l p=some (aft p l):=by
 have hlim:lim=268435456:=rfl;unfold AIJ;refine(DI (n:=l.length) (λi (v:Int×List B3)=>(v.2,v.1,(i:Int))) (λi v=>v.2.length<=i/\0<=v.1/\v.1<=1000000) (λi v=>some (v.2++aft v.1 (l.drop i))) (by omega) ?_ (v:=(p,[])) (by simpa using B)).trans (by simp);rintro L i ⟨v,acc⟩ ⟨q,a,c⟩ hi g;unfold ABO iJ iK;dsimp only at q a c ⊢;simp only[dec_lt,AV];rcases Aa i l.length with h|h
 .have ⟨G,H,I⟩:=y _ (Ao h);rw[decide_eq_true h,BT,BQ h,AB,Dl h,B1 h (by omega),BW,A7 (by omega) (by omega)];unfold aft;by_cases e:l[i].Seq<=v
  .rw[AW e,AW e];exact g (v,acc) ⟨by dsimp only;omega,a,c⟩ h
  .rw[AT e,AT e];by_cases j:l[i].Seq=v+1
   .rw[AW j,show (l[i].Seq != v+1)=false by rw[bne_eq_false_iff_eq];omega,Bd,CE (by simp only[AI,AM];omega)];have:=g (v+1,acc++[l[i]]) ⟨by simp;omega,by dsimp only;omega,by dsimp only;omega⟩ h;rw[this];simp
   grind[BT]
 .rw[decide_eq_false (by omega),Bd,A1 h];simp[aft]
def notes:List B3->List Bp| []=>[]|f::l=>if (Ol f.Body).2=true then (Ol f.Body).1::notes l else []
theorem Z9:∀l,(notes l).length<=l.length
 | []=>by simp[notes]|f::l=>by
  unfold notes;have:=Z9 l;split<;>simp<;>omega
theorem re{l:List B3}(a:l.length<=1048576){G:List UInt8->AA (Bp×Bool)}(hG:∀f∈l,G f.Body=some (Ol f.Body)){F:(List Bp×Int->AA (List Bp))->List Bp×Int->AA (List Bp)}
 (hF:∀L acc i,F L (acc,i)=br (decide (i<(l.length:Int))) (bd (at? l i) λx=>bd (G x.Body) λy=>br (!y.2) (some acc) (gd (acc.length+[y.1].length<=lim) (L (acc++[y.1],w64 (i+1))))) (some acc)) :
 BE F big ([],0)=some (notes l):=by
 refine(DI (n:=l.length) (λi (v:List Bp)=>(v,(i:Int))) (λi v=>v.length<=i) (λi v=>some (v++notes (l.drop i))) (by omega) ?_ (v:=[]) (by simp)).trans (by simp)
 grind[BQ,AB,Dl,B1,Bw,notes,CE,lim]
theorem yU{l:List B3}(e:l.length<=1048576)(a:∀f∈l,f.Body.length<=1048576):AIH l=some (notes l):=by
 unfold AIH;exact re e (G:=pJ) (λf c=>Yj (a f c)) λL acc i=>by unfold ABD g9;simp only[AV]
theorem wv{l:List B3}(e:l.length<=1048576)(a:∀f∈l,f.Body.length<=1048576):AII l=some (notes l):=by
 unfold AII;exact re e (G:=AAb) (λf c=>w6 (a f c)) λL acc i=>by unfold ABE iA;simp only[AV]
theorem sy{s:Bo}{k:Int}{r:AE×Int×Bool}(h:Hi s k=some r):0<=r.2.1/\r.2.1<=1000000:=by
 unfold Hi at h;rw[IK,AB,IJ,AB,BM]at h;cases a:Ec (Cd s k) with
 |false=>rw[a,Bd]at h;cases h;decide
 |true=>
  have j:=Db.1 a;rw[a,BT,CE j.2]at h;have ⟨q,g,y,c⟩:=MR (s:=List.take (Cd s k).Safe.toNat (Cd s k).Data) (by rw[Ai];omega);rw[g,AB]at h;cases h;cases e:q.2.2 with
  |false=>rw[c.no e];decide|true=>
   have B:=(c.yes e).2.2
   grind[DC,B8,ABU,XG,BW,AV]
def Mp(s:Bo)(n:Int)(q:AE×Int×Bool):AE×Int×Bool:=
 if Fq s=true/\¬n<0 then ((D7 (notes (aft q.2.1 (EF s.Log.Data))) q.1).1,q.2.1+(notes (aft q.2.1 (EF s.Log.Data))).length,true) else (Iz,0,false)
structure O3(s:Bo)(n:Int)(q:AE×Int×Bool):Prop where
 sn:Jw s=some n
 im:U5 s=some n
 sr:Hi s n=some q
 ir:K1 s n=some q
 fit:Br q.1
 lo:0<=q.2.1
 hi:q.2.1<=1000000
theorem mc(s:Bo):∃n q,O3 s n q:=by
 have ⟨n,c,e,_⟩:=RD s;have ⟨q,q1,g,h⟩:=FM s n;have ⟨a,b⟩:=sy q1;exact⟨n,q,c,e,q1,g,h,a,b⟩
theorem recovered{s:Bo}(j:s.Log.Data.length<=1048576){n:Int}{q:AE×Int×Bool}(h:O3 s n q):qW s=some (Mp s n q)/\qR s=some (Mp s n q)/\Br (Mp s n q).1:=by
 have E:=Lt s.Log.Data;have a:=ZQ s.Log.Data;have y:=cU (EF s.Log.Data) q.2.1;have I:=Z9 (aft q.2.1 (EF s.Log.Data));have e:∀f∈aft q.2.1 (EF s.Log.Data),f.Body.length<=1048576:=λf B=>by have:=(a f (s6 _ _ f B)).2.2;omega
 have H:=h.lo;have G:=h.hi;unfold qW qR j9 jl Mp;simp only[h.sn,h.im,h.sr,h.ir,AB,SE,Xv,AV,T4 j,Tb j];rw[AGy (by omega) a ⟨h.lo,h.hi⟩,AF3 (by omega) a ⟨h.lo,h.hi⟩,AB,AB,yU (by omega) e,wv (by omega) e,AB,AB,Ou h.fit (by omega),Vq h.fit (by omega),AB,A7 (by omega) (by omega)];cases e:Fq s with
 |false=>exact⟨rfl,rfl,MQ⟩|true=>
  by_cases c:n<0
  .rw[decide_eq_true c,AT (λg=>g.2 c)];exact⟨rfl,rfl,MQ⟩
  .rw[decide_eq_false c,AW ⟨rfl,c⟩];exact⟨rfl,rfl,(IA _ h.fit).1⟩
def used:Int->Int->List B3->Int|_,e,[]=>e|v,e,f::l=>if f.Seq<=v then used v f.Next l else if f.Seq=v+1/\(Ol f.Body).2=true then used (v+1) f.Next l else e
def nZ(t:Int):Int->Int->List B3->Int|_,e,[]=>e|v,e,f::l=>if f.Seq<=v then nZ t v f.Next l else if f.Seq=v+1/\f.Seq<=t then nZ t (v+1) f.Next l else e
theorem na:∀(l:List B3) (v e:Int),nZ (v+(notes (aft v l)).length) v e l=used v e l
 | [],v,e=>rfl|f::l,v,e=>by
  unfold nZ used;unfold aft;by_cases a:f.Seq<=v
  .rw[AW a,AW a,AW a,na l]
  .rw[AT a,AT a,AT a];by_cases c:f.Seq=v+1
   .rw[AW c];unfold notes;by_cases h:(Ol f.Body).2=true
    .rw[AW h,AI,AW (show _/\_ from ⟨c,by omega⟩),AW (show _/\(Ol f.Body).2=true from ⟨c,h⟩),<-na l (v+1)];congr 1;omega
    .grind
   .rw[AT c,AT (λg=>c g.1),AT (λg=>c g.1)]
def Ow(s:Bo)(n:Int)(q:AE×Int×Bool):Int:=if Fq s=true/\¬n<0 then used q.2.1 0 (EF s.Log.Data) else 0
theorem aS{s:Bo}(Q:s.Log.Data.length<=1048576){n:Int}{q:AE×Int×Bool}(h:O3 s n q):qX s=some (Ow s n q):=by
 have O:=Lt s.Log.Data;have B:=ZQ s.Log.Data;have G:=h.lo;have E:=h.hi;unfold qX kC Ow;simp only[h.sn,h.sr,AB,SE,AV,T4 Q];have key:BE (kE (EF s.Log.Data)) big (q.2.1,0,0)=some (used q.2.1 0 (EF s.Log.Data)):=by
  generalize EF s.Log.Data=l at *;refine(DI (n:=l.length) (λi (v:Int×Int)=>(v.1,v.2,(i:Int))) (λi v=>0<=v.1/\v.1<=1000000) (λi v=>some (used v.1 v.2 (l.drop i))) (by omega) ?_ (v:=(q.2.1,0)) ⟨G,E⟩).trans (by simp);rintro L i ⟨v,e⟩ ⟨a,c⟩ hi J;unfold kE kD AB7;dsimp only at a c ⊢;simp only[dec_lt,AV];rcases Aa i l.length with h|h
  .have ⟨X,Y,Z⟩:=B _ (Ao h);rw[decide_eq_true h,BT];simp only[BQ h,AB];rw[Dl h,B1 h (by omega),BW,A7 (by omega) (by omega),Yj (by omega)];unfold used;by_cases H:l[i].Seq<=v
   .rw[AW H,AT (by omega),show (l[i].Seq==v+1)=false by rw[beq_eq_false_iff_ne];omega,Bd];exact J (v,l[i].Next) ⟨a,c⟩ h
   .rw[AT H];by_cases I:l[i].Seq=v+1
    .rw[AT (by omega),show (l[i].Seq==v+1)=true by rw[beq_iff_eq];omega,BT,AB,BM,Bw];by_cases j:(Ol l[i].Body).2=true
     .rw[AW j,AW ⟨I,j⟩];exact J (v+1,l[i].Next) ⟨by dsimp only;omega,by dsimp only;omega⟩ h
     .rw[AT j,AT (λg=>j g.2)]
    .rw[AW (by omega),AT (λg=>I g.1)]
  .rw[decide_eq_false (by omega),Bd,A1 h];simp[used]
 rw[key];cases S:Fq s with
 |false=>rfl|true=>
  by_cases y:n<0
  .rw[decide_eq_true y,AT (λg=>g.2 y)];rfl
  .rw[decide_eq_false y,AW ⟨rfl,y⟩];rfl
theorem ALS(O:s.Log.Data.length<=1048576){q:AE×Int×Bool}(h:O3 s n q):AI0 s=some (Ow s n q):=by
 have Y:=Lt s.Log.Data;have y:=ZQ s.Log.Data;have E:=h.lo;have B:=h.hi;unfold AI0 Ow;simp only[(recovered O h).2.1,h.im,h.ir,AB,Cp,Jo,Tb O];by_cases j:Fq s=true/\¬n<0
 .have G:(Mp s n q).2=(q.2.1+(notes (aft q.2.1 (EF s.Log.Data))).length,true):=by unfold Mp;rw[AW j]
  rw[G,AW j];dsimp only;rw[BM,BT,<-na];have Z:=Z9 (aft q.2.1 (EF s.Log.Data));have X:=cU (EF s.Log.Data) q.2.1;have S:(Mp s n q).2.1=q.2.1+(notes (aft q.2.1 (EF s.Log.Data))).length:=by rw[G]
  generalize q.2.1+((notes (aft q.2.1 (EF s.Log.Data))).length:Int)=t at *;generalize Mp s n q=r at *;generalize EF s.Log.Data=l at *;refine(DI (n:=l.length) (λi (v:Int×Int)=>(v.1,v.2,(i:Int))) (λi v=>0<=v.1/\v.1<=1000000) (λi v=>some (nZ t v.1 v.2 (l.drop i))) (by omega) ?_ (v:=(q.2.1,0)) ⟨E,B⟩).trans (by simp);rintro L i ⟨v,e⟩ ⟨a,c⟩ hi Q;unfold ABy jm jo jq;dsimp only at a c ⊢;simp only[dec_lt,AV];rcases Aa i l.length with h|h
  .have ⟨o1,o2,o3⟩:=y _ (Ao h);rw[decide_eq_true h,BT];simp only[BQ h,AB];rw[Dl h,B1 h (by omega),BW,A7 (by omega) (by omega),S];unfold nZ;by_cases H:l[i].Seq<=v
   .rw[AW H,AT (by omega)];exact Q (v,l[i].Next) ⟨a,c⟩ h
   .rw[AT H,AW (by omega)];by_cases I:l[i].Seq=v+1
    .rw[show (l[i].Seq != v+1)=false by rw[bne_eq_false_iff_eq];omega,Bd,BW];by_cases J:l[i].Seq<=t
     .rw[AT (by omega),AW ⟨I,J⟩];exact Q (v+1,l[i].Next) ⟨by dsimp only;omega,by dsimp only;omega⟩ h
     .rw[AW (by omega),AT (λg=>J g.2)]
    .rw[show (l[i].Seq != v+1)=true by rw[bne_iff_ne];omega,BT,BT,AT (λg=>I g.1)]
  .rw[decide_eq_false (by omega),Bd,A1 h];simp[nZ]
 .rw[show Mp s n q=(Iz,0,false) by unfold Mp;rw[AT j],AT j];rfl
def nY(a:B4)(p:Int):B4×Bool:=if Ec a=true/\inB p 0 a.Data.length=true then (⟨a.Data.take p.toNat,if a.Safe<p then a.Safe else p⟩,true) else (a,false)
theorem ANP(a:B4)(p:Int):qY a p=some (nY a p):=by
 grind[qY,kF,nY,IJ,AB,GX,AV,Ec,inB,BT,Bd,CE,Oa]
theorem ANX(a:B4)(p:Int):(nY a p).1.Data.length<=a.Data.length:=by grind[nY]
def WV(s:Bo):Bool:=(s.Log.Safe==(s.Log.Data.length:Int))&&((s.Eo.Safe==(s.Eo.Data.length:Int))&&(s.Odd.Safe==(s.Odd.Data.length:Int)))
theorem ANI(s:Bo):AJH s=some (WV s):=by
 unfold AJH XY AB6 WV;simp only[AB,AV,Cn]
def AYo:Bo:=⟨⟨[],0⟩,⟨[],0⟩,⟨[],0⟩⟩
def AKk:A6:=⟨Iz,AYo,0,[]⟩
theorem AEP:Ch AKk:=⟨MQ,by decide,by decide,by decide,by decide⟩
def II(s:Bo)(n:Int)(q:AE×Int×Bool):A6×Bool:=
 if (Mp s n q).2.2=true/\WV s=true then (⟨(Mp s n q).1,⟨Mx (nY s.Log (Ow s n q)).1,s.Eo,s.Odd⟩,(Mp s n q).2.1,[]⟩,true) else (AKk,false)
def bZ(a:B4)(p:Int):Int:=if p<0 then a.Safe else if p<a.Data.length-a.Safe then a.Safe+p else a.Data.length
def JX(a:B4)(p:Int):B4:=if Ec a=true then ⟨a.Data.take (bZ a p).toNat,bZ a p⟩ else a
theorem AWA(b:Int):O0 0 b=some (if 0<b then b else 0):=by
 unfold O0;rw[BW];grind
theorem AYA(p:Int)(a:0<=m):AJF p 0 m=some (if p<0 then 0 else if p<m then p else m):=by
 unfold AJF;congr 1
 grind
theorem ANK(a:B4)(p:Int):qS a p=some (JX a p):=by
 grind[qS,JX,IJ,AB,BM,Db,BT,Oa,AWA,A7,bZ,CE]
theorem ALM(a:B4)(p:Int):qT a p=some (JX a p):=by
 grind[qT,JX,FZ,AB,BM,Db,BT,A7,AYA,bZ,CE]
theorem Zw(a:B4)(p:Int):(JX a p).Data.length<=a.Data.length:=by grind[JX]
theorem rX(h:Ec a=true):(JX a 20000).Data=a.Data:=by
 grind[Db,bZ,JX,List.take_of_length_le]
def DH(s:Bo)(l:List Int):Bo:=⟨JX s.Log (l.getD 0 0),JX s.Eo (l.getD 1 0),JX s.Odd (l.getD 2 0)⟩
theorem xF(l:List Int)(i:Nat):XU l i=some (l.getD i 0):=by
 grind[XU,BT,BQ,AB,Bd]
theorem PY(s:Bo)(l:List Int):jr s l=some (DH s l):=by
 unfold jr DH;rw[show XU l 0=some (l.getD 0 0) from xF l 0,show XU l 1=some (l.getD 1 0) from xF l 1,show XU l 2=some (l.getD 2 0) from xF l 2];simp only[AB,ANK]
theorem AZH(l:List Int):List.take (List.replicate (Int.toNat 3) 0).length l++List.drop l.length (List.replicate (Int.toNat 3) 0)=[l.getD 0 0,l.getD 1 0,l.getD 2 0]:=by
 match l with
 | []=>rfl| [a]=>rfl| [a,b]=>rfl|a::b::c::m=>simp[List.getD]
theorem ACu(s:Bo)(l:List Int):ABz s l=some (DH s l):=by
 unfold ABz DH;rw[AZH,show at? [l.getD 0 0,l.getD 1 0,l.getD 2 0] 0=some (l.getD 0 0) from rfl,show at? [l.getD 0 0,l.getD 1 0,l.getD 2 0] 1=some (l.getD 1 0) from rfl,show at? [l.getD 0 0,l.getD 1 0,l.getD 2 0] 2=some (l.getD 2 0) from rfl];simp only[AB,ALM]
theorem Lr(a:Ch e)(l:List Int):(DH e.An l).Log.Data.length<=1048576/\(DH e.An l).Eo.Data.length<=1048576/\(DH e.An l).Odd.Data.length<=1048576:=
 ⟨Aw (Zw _ _) a.log,Aw (Zw _ _) a.even,Aw (Zw _ _) a.odd⟩
def aR(e:A6)(r r':AE×Int×Bool)(u:Int):Bool:=
 C8 e&&((r.2.2&&(r.2.1==e.Seq&&(u==(e.An.Log.Data.length:Int)&&OX r.1 (D7 e.Laid e.Av).1)))&&(r'.2.2&&(r'.2.1==w64 (e.Seq-(e.Laid.length:Int))&&OX r'.1 e.Av)))
theorem AEU{e:A6}(a:Ch e):∃b,bF e=some b/\ACB e=some b:=by
 have ⟨n,q,h⟩:=mc (DH e.An [20000,20000,20000]);have ⟨H,q',E⟩:=mc (DH e.An []);have ⟨c,S,X⟩:=Lr a [20000,20000,20000];have ⟨m1,m2,m3⟩:=Lr a [];have ⟨I,J,y⟩:=recovered c h;have ⟨s1,L,B⟩:=recovered m1 E;have O:=aS c h;have Q:=ALS c h;have j:=(IA e.Laid a.D9).1;unfold bF ACB QU TK TH Xb;simp only[FN a,Pt a,AB];cases g:C8 e with
 |false=>exact⟨_,rfl,rfl⟩|true=>
  have G:Ec e.An.Log=true:=by have:=(EV g).2.1;unfold Fq at this;grind
  have ee:(DH e.An [20000,20000,20000]).Log.Data=e.An.Log.Data:=rX G;simp only[Ou a.D9 a.laid,Vq a.D9 a.laid,PY,ACu,I,J,s1,L,O,Q,AB,AV,Jd y j,Td y j,Jd B a.D9,Td B a.D9,ee];generalize Mp (DH e.An [20000,20000,20000]) n q=r;generalize Mp (DH e.An []) H q'=r';generalize Ow (DH e.An [20000,20000,20000]) n q=u;simp only[bne];refine⟨aR e r r' u,?_,?_⟩<;>unfold aR<;>rw[g]<;>cases r.2.2<;>cases (r.2.1==e.Seq)<;>cases (u==(e.An.Log.Data.length:Int))<;>cases OX r.1 (D7 e.Laid e.Av).1<;>cases r'.2.2<;>cases (r'.2.1==w64 (e.Seq-(e.Laid.length:Int)))<;>cases OX r'.1 e.Av<;>rfl
theorem ANm(a:Int):0<=dq a 255/\dq a 255<=255:=by
 unfold dq;have e:(BitVec.ofInt IntKind.i64.bits 255).toNat=255:=rfl
 grind[BitVec.toNat_and,BitVec.ofInt,Nat.and_le_right,Uu]
theorem ASM(s:List UInt8):AOJ s=some (decide ((s.length:Int)>1048576)):=rfl
def EJ(c:BS):Prop:=0<=c.i_/\c.i_<=c.b_.length/\c.b_.length<=1048576
theorem AZo{s:List UInt8}(a:s.length<=1048576):∃c,ABF s=some c/\EJ c:=by
 unfold ABF;refine Xm (n:=s.length) (λi (v:Int)=>(v,(i:Int))) (λ_ _=>True) EJ (by omega) ?_ trivial;intro L i v _ hi e;unfold ABH iB ABG;dsimp only;simp only[AV,dec_lt];rcases Aa i s.length with h|h
 .rw[decide_eq_true h,BT,BW,BQ h,AB,B1 h (by omega)];split
  .exact e _ trivial h
  .exact⟨_,rfl,by simp,by simp,a⟩
 .rw[decide_eq_false (by omega),Bd,Bd];exact⟨_,rfl,by simp,by simp,a⟩
theorem AD7(j:EJ c):∃r,ay c=some r/\0<=r.1/\r.1<=255/\EJ r.2:=by
 have ⟨a,g,e⟩:=j;unfold ay iC;rw[BW];have ⟨i,hi⟩:=Ah a;split
 .rename_i h;rw[hi,BQ (by omega),AB,AV];have:=ANm (w64 (dq (Uz (EB (w64 (w64 (c.h_*6364136223846793005)+1442695040888963407)) 33) (EB (w64 (w64 (c.h_*6364136223846793005)+1442695040888963407)) 45)) 255+w64 (↑(UInt8.toNat c.b_[i]):Int)));refine⟨_,rfl,this.1,this.2,?_⟩;rw[A7 (n:=(i:Int)+1) (by omega) (by omega)];exact⟨by dsimp only;omega,by dsimp only;omega,e⟩
 .rw[AV];have:=ANm (Uz (EB (w64 (w64 (c.h_*6364136223846793005)+1442695040888963407)) 33) (EB (w64 (w64 (c.h_*6364136223846793005)+1442695040888963407)) 45));exact⟨_,rfl,this.1,this.2,a,g,e⟩
theorem nW{a:Int}(c:0<=a)(e:0<n):0<=Int.tmod a n/\Int.tmod a n<n:=by
 rw[Int.tmod_eq_emod_of_nonneg c];exact⟨Int.emod_nonneg _ (by omega),Int.emod_lt_of_pos _ e⟩
theorem Ev(q:EJ c)(n:Int):∃r,EE c n=some r/\0<=r.1/\(n<=0->r.1=0)/\(0<n->r.1<n)/\EJ r.2:=by
 unfold EE;rw[BW];by_cases y:n<=0
 .rw[AW y];exact⟨_,rfl,by simp,by simp,by omega,q⟩
 rw[AT y,BW];split
 .have ⟨r,e,S,h2,h3⟩:=AD7 q;rw[e,AB,CE (by omega)];have:=nW S (show 0<n by omega)
  grind
 .have ⟨g,J,X,Z,E⟩:=AD7 q;have ⟨h,L,Y,b2,G⟩:=AD7 E;have ⟨j,O,a3,b3,H⟩:=AD7 G;have ⟨B,Q,a4,b4,I⟩:=AD7 H;rw[J,AB,L,AB,O,AB,Q,AB,CE (by omega)];rw[A7 (n:=g.1*16777216) (by omega) (by omega),A7 (n:=h.1*65536) (by omega) (by omega),A7 (n:=j.1*256) (by omega) (by omega)];rw[A7 (n:=g.1*16777216+h.1*65536) (by omega) (by omega),A7 (n:=g.1*16777216+h.1*65536+j.1*256) (by omega) (by omega),A7 (n:=g.1*16777216+h.1*65536+j.1*256+B.1) (by omega) (by omega)];have:=nW (a:=g.1*16777216+h.1*65536+j.1*256+B.1) (by omega) (show 0<n by omega);exact⟨_,rfl,this.1,by omega,λ_=>this.2,I⟩
theorem nQ(a:EJ c)(n:Int):∃r,S7 c n=some r/\EJ r.2:=by
 have ⟨r,e,_,_,_,h⟩:=Ev a n;unfold S7;rw[e,AB];exact⟨_,rfl,h⟩
theorem nR(a:EJ c){l:List Int}(g:l≠[]):∃r,pz c l=some r/\EJ r.2/\r.1∈l:=by
 unfold pz;have B:0<l.length:=by cases l with|nil=>exact absurd rfl g|cons=>simp
 have ⟨r,e,h,j,q,y⟩:=Ev a (l.length:Int)
 grind[Int.eq_ofNat_of_zero_le,AB,BQ,List.getElem_mem]
theorem AUj(e:EJ c):∃r,ABI c=some r/\r.1.AX.length<=3/\Ds r.1=true/\EJ r.2:=by
 unfold ABI;have ⟨r1,j,X,Y,a,g⟩:=Ev e 5;have ⟨r2,e2,a2,b2,B,Z⟩:=Ev g 9;have ⟨r3,e3,a3,b3,E,c3⟩:=Ev Z 6;have ⟨r4,e4,a4,b4,G,c4⟩:=Ev c3 5;have ⟨r5,e5,a5,b5,H,c5⟩:=Ev c4 4;have ⟨r6,e6,a6,b6,I,c6⟩:=Ev c5 4;have ⟨r7,e7,a7,b7,J,c7⟩:=Ev c6 4;have ⟨r8,e8,a8,b8,O,c8⟩:=Ev c7 3;have ⟨q,e9,a9,b9,d9,c9⟩:=Ev c8 3;simp only[j,e2,e3,e4,e5,e6,e7,e8,e9,AB];have a:=a (by omega);have B:=B (by omega);have E:=E (by omega);have G:=G (by omega);have H:=H (by omega);have I:=I (by omega);have J:=J (by omega);have O:=O (by omega);have h9:=d9 (by omega);have ⟨n,hn⟩:=Ah (show 0<=1+q.1 by omega);refine Xm (n:=n) (λi (v:BS×AY)=>((i:Int),v.1,v.2)) (λi v=>EJ v.1/\∃ss:List Int,v.2=⟨ss,w64 (1+r1.1),w64 (2+r2.1),w64 (1+r3.1),w64 (1+r4.1),w64 (1+r5.1),r6.1,w64 (1+r7.1),w64 (1+r8.1)⟩/\ss.length=i/\∀x∈ss,2<=x/\x<=13) _ (by omega) ?_ (v:=(q.2,_)) ⟨c9,[],rfl,rfl,by simp⟩;rintro L i ⟨c,r⟩ ⟨e,ss,Q,hs,hx⟩ hi S;unfold ABK ABJ;dsimp only at e Q S ⊢;subst Q;rw[A7 (n:=1+q.1) (by omega) (by omega),hn,dec_lt];rcases Aa i n with h|h
 .have ⟨y,j,X,Y,a,g⟩:=Ev e 12;have a:=a (by omega);rw[decide_eq_true h,BT,j,AB,CE (by simp only[AI,AM];unfold lim;omega),B1 h (by omega)];refine S (_,_) ⟨g,_,rfl,by simp[hs],?_⟩ h
  grind[List.mem_singleton,A7]
 .rw[decide_eq_false (by omega),Bd,AV]
  grind[Ds,B8,List.all_eq_true,A7]
def Nk(h:AE):Prop:=-9223372036854775808<=h.Now/\h.Now<9223372036854775808
def AYp(r:AY)(n:Nat)(h:AE):Prop:=h.AH.length<=h.AQ.AX.length/\h.AH.length<=r.AX.length/\h.AQ.AX.length<=1048576/\h.AG.length<=n/\h.BD.length<=n/\h.BB.length<=3/\(∀c∈h.AH,FP c)/\1<=h.AH.length/\Nk h
theorem ASy(g:okN n)(e:okN m){x y:List UInt8}(h:pN n++x=pN m++y):n=m/\x=y:=by
 have c:=AGk g x;rw[h,AGk e y]at c;simp only[AD,Prod.mk.injEq]at c;have a:n=m:=by have:=g.1;have:=e.1;omega
 subst a;exact⟨rfl,List.append_cancel_left h⟩
theorem ADO:∀{l' l:List Int} {t:List UInt8},(∀n∈l',okN n)->(∀n∈l,okN n)->pL l'++t=pL l->∃r,l=l'++r/\t=pL r
 | [],l,t,_,_,h=>⟨l,rfl,h⟩|n::l',[],t,a,_,h=>by
  have:=mM (a n (BJ ..));have e:pL (n::l')=pN n++pL l':=rfl;rw[e]at h;have:=congrArg List.length h;simp only[AJ]at this;have g:(pL []).length=0:=rfl;omega
 |n::l',m::l,t,a,j,h=>by
  have e:pL (n::l')=pN n++pL l':=rfl;have g:pL (m::l)=pN m++pL l:=rfl;rw[e,g,BP]at h;have ⟨q1,q⟩:=ASy (a n (BJ ..)) (j m (BJ ..)) h;have ⟨r,y,B⟩:=ADO (λk c=>a k (Ae _ c)) (λk c=>j k (Ae _ c)) q;exact⟨r,by rw[q1,y];rfl,B⟩
theorem ASe(q:C9 h=true):∀n∈Fh h,okN n:=by
 have e:=Nl q;have I:=Jk q;have hR:=CL e.rules;have y:=MI h.AQ;rw[To];intro n a;unfold okN;simp only[Ad,Bn,List.mem_flatMap,List.mem_map]at a;rcases a with rfl|a|rfl|rfl|rfl|⟨p,L,a⟩|⟨c,E,rfl⟩|rfl|a|⟨j,H,rfl⟩
 .omega
 .unfold Ja at a;simp only[Ad,Bn,H5,or_false]at a;rcases a with (rfl|rfl|rfl|rfl|rfl|rfl|rfl|rfl)|a
  all_goals first|omega|skip
  have:=hR.2.2.2.2.2.1 n a;omega
 .omega
 .omega
 .omega
 .obtain⟨i,hi,rfl⟩:=C2.1 L;have O:=FB (e.par i hi);unfold Lf at a;simp only[Ad,H5,or_false]at a;have G:=A7 (n:=h.AG[i].Bz+1) (by omega) (by omega);rw[G]at a;omega
 .obtain⟨i,hi,rfl⟩:=C2.1 E;have B:i<h.AQ.AX.length:=by rw[<-e.Dt];exact hi
  have hD:h.AQ.AX.getD i 0=h.AQ.AX[i]:=by simp[List.getD,B]
  have g:=(e.cab i hi).2;have Q:=hR.2.2.2.2.2.1 _ (Ao B);rw[hD]at g;omega
 .have:=e.todo;have:=e.EA;omega
 .obtain⟨i,hi,rfl⟩:=C2.1 a;have g:=Jy.1 I.2.2.2.2.2.2.1 i hi;unfold SH at g;have J:=e.Dt;have:=e.EA;rw[CX hi,AF,B8,A7 (by omega) (by omega)]at g;omega
 .have:=e.job j H;unfold up;rw[A7 (by omega) (by omega)];omega
theorem Vf(l:List AU):(l.flatMap Lf).length=10*l.length:=by
 induction l with
 |nil=>rfl|cons p l a=>rw[List.flatMap_cons,AJ,a,AI];show 10+_=_;omega
theorem ALo{r':AY}(h:Ja r=Ja r'):r=r':=by
 have ⟨s,a,b,c,d,e,f,g,i⟩:=r;have ⟨I,j,q,y,B,E,G,g',H⟩:=r';unfold Ja at h;simp only[Bi,Bb,CB]at h;obtain⟨rfl,rfl,rfl,rfl,rfl,rfl,rfl,rfl,rfl⟩:=h;rfl
theorem xO(j:C9 g=true)(q:C9 h=true){t:List Int}(a:Fh g++t=Fh h):t=[]:=by
 have rg:=Nl j;have rh:=Nl q;rw[To,To]at a;simp only[Bi,BP,CB]at a;have ⟨E,a⟩:=a;have ⟨e,a⟩:=D2 a (by omega);have hR:=ALo e;simp only[CB]at a;have ⟨_,_,G,a⟩:=a;have ⟨_,a⟩:=D2 a (by rw[Vf,Vf];omega);have ⟨_,a⟩:=D2 a (by rw[Ac,Ac,rg.Dt,rh.Dt,hR]);simp only[CB]at a;have ⟨H,a⟩:=a;have ⟨_,a⟩:=D2 a (by omega);have y:=congrArg List.length a;rw[AJ,Ac,Ac]at y;have c:=rg.Od;have B:=rh.Od;rw[hR]at c;exact Fj.1 (by omega)
theorem ASd(c:C9 h=true):16<=(Fh h).length:=by
 have a:=Nl c;have e:=MI h.AQ;have g:=a.EA;have j:=a.Dt;have q:=a.Od;have y:=a.Aan;rw[To];simp only[AI,AJ,Ac,Vf];omega
theorem AUX(a:C9 h=true)(c:inB q 0 1000000=true):DC h q=four ((Kk (pL (q::Fh h)):Nat):Int)++pL (q::Fh h):=by
 unfold DC;rw[AW ⟨a,c⟩]
theorem AUY{s:List UInt8}(a:DC h q=s)(e:s≠[]):C9 h=true/\inB q 0 1000000=true:=by
 unfold DC at a;split at a
 .rename_i c;exact c
 .exact(e a.symm).elim
theorem Yh(c:C9 h=true)(e:inB q 0 1000000=true):∀n∈q::Fh h,okN n:=by
 intro n a;rw[B8]at e;rcases Ad.1 a with rfl|a
 .unfold okN;omega
 .exact ASe c n a
theorem aQ(a:C9 h=true)(c:inB q 0 1000000=true):(DC h q).drop 4=pL (q::Fh h)/\20<=(DC h q).length:=by
 rw[AUX a c];have e:=ASv (Yh a c);have g:=ASd a;refine⟨List.drop_left' (HP _),?_⟩;rw[AJ,HP];simp only[AI]at e;omega
theorem sS(a:C9 h=true)(j:Br h)(g:inB q 0 1000000=true):az (DC h q)=some (h,q,true):=by
 have G:=FE h q;have ⟨c,E⟩:=aQ a g;have ⟨r,_,e,B⟩:=MR (s:=DC h q) (by omega);rw[e,B.all h q a j ?_ rfl (by omega)];have y:(pL (q::Fh h)).length<=(DC h q).length:=by rw[<-c,BH];omega
 rw[c];exact yB _ _ (Yh a g) (by omega)
theorem AUZ{h:AE}(g:C9 h=true){q:Int}(B:inB q 0 1000000=true){m:Nat}(X:m<(DC h q).length):∃r,az ((DC h q).take m)=some r/\r.2.2=false:=by
 have S:=FE h q;have ⟨r,_,e,I⟩:=MR (s:=(DC h q).take m) (by rw[Ai];omega);refine⟨r,e,?_⟩;cases y:r.2.2 with
 |false=>rfl|true=>
  exfalso;have ⟨O,Q,c⟩:=I.yes y;by_cases a:(DC h q).take m=[]
  .rw[a]at e;have:az []=some (Iz,0,false):=rfl;rw[this]at e;cases e;cases y
  .have ⟨j,E⟩:=AUY c a;have ⟨s1,Y⟩:=aQ j E;have ⟨J,Z⟩:=aQ g B;have H:pL (r.2.1::Fh r.1)++(DC h q).drop m=pL (q::Fh h):=by
    rw[<-s1,<-J,c];have G:4<=m:=by
     have:=congrArg List.length c;rw[Ai]at this;omega
    conv=>rhs;rw[<-CY m (DC h q)]
    rw[Ee (by rw[Ai];omega)]
   have ⟨t,t1,t2⟩:=ADO (Yh j E) (Yh g B) H;simp only[Bi,CB]at t1;have:=xO j g t1.2.symm;rw[this]at t2;have:=congrArg List.length t2;rw[BH]at this;have L:(pL []).length=0:=rfl;omega
theorem AGr(l:List A0):Eu eqE l l=true:=(ID dO).2 rfl
theorem AGs(l:List Bc):Eu eqP l l=true:=(ID dP).2 rfl
theorem AHH(x:Int):(x==x)=true:=beq_self_eq_true x
theorem AGu(a:r.AX.length<=1048576):qD r r=some true:=by
 grind[qD,JS,Je,Q0,AB,BT,AV]
theorem AGv{w:A2}(c:DY w)(a:HL w=true):qE w w=some true:=by
 unfold qE TC
 grind[Ib,HY,Mw,P5,E6,AGs,AB,BT,AV]
theorem AGt{c:Ag}(a:FP c)(e:Lj c=true):qF c c=some true:=by
 have g:HL c.B5=true:=by
  grind[Lj]
 have h:=a.1;unfold qF ON;simp only[Nn a,e,AHH,CK,SD (show c.Row.length<2 ^ 62 by omega),AGr,AGv a.2 g,AB,BT,AV]
theorem mq(a:Br h)(e:C9 h=true):bB h h=some true:=by
 have j:=a.EA;have B:=a.CP;have E:=a.Dt;have G:=a.todo;have H:=a.F8;unfold bB Ik;simp only[Gm a,e,AGu j,Je (show h.BD.length<2 ^ 62 by omega),Je (show h.BB.length<2 ^ 62 by omega),Q0.2,ne_self,AB,Bq,Bd,AV];have q:TD h h ()=some true:=by
  unfold TD;have key:=AY5 (n:=h.AH.length) (F:=QS h h) (by omega) ?_ ?_
  .rw[ne_self,Bd]at key;exact key
  .intro L i hi;have c:Lj h.AH[i]=true:=by
    have I:=Jy.1 (Jk e).2.2.2.2.2.2.2.2.2 i hi
    grind[WU,CX,KR]
   unfold QS;rw[CF hi,BT,BQ hi,AB,AB,AGt (a.EN _ (Ao hi)) c,AB,BM,BT]
  .intro L;unfold QS iY;rw[C0,Bd,AV]
 rw[<-q];refine(DI (n:=h.AG.length) (λi (_:Unit)=>(i:Int)) (λ_ _=>True) (λ_ _=>TD h h ()) (by omega) ?_ (v:=()) trivial);intro L i _ _ hi y;unfold XI;rcases Aa i h.AG.length with g|g
 .rw[CF g,BT,BQ g,AB,AB,B1 g (by omega)];simp only[AHH,CK,Bq,Bd];exact y () trivial g
 grind[Bd,AV]
theorem m0:az []=some (Iz,0,false):=rfl
theorem AbK(hc:EJ c)(hh:Br h):∃x,ABN c h=some x/\EJ x.2:=by
 unfold ABN;have ⟨x1,O,_,_,_,H⟩:=Ev hc 12;have j4:∀x:BS×Bp,iI x=some (x.2,x.1):=λ_=>rfl
 have j5:∀(v x:Int) (y:Int×BS) (b:Bool),EJ y.2->∃z,XA h v x y b=some z/\EJ z.2:=by
  intro v x y b a;unfold XA;have ⟨G,e,_,_,_,g⟩:=Ev a x;have ⟨z2,j,_,_,_,q⟩:=Ev g 4;have ⟨z3,f3,_,_,_,B⟩:=Ev a (if 1>h.AQ.C4 then 1 else h.AQ.C4);simp only[e,j,f3,OZ,AB,Bw]
  repeat' split
  all_goals first|exact⟨_,rfl,q⟩|exact⟨_,rfl,a⟩|exact⟨_,rfl,B⟩
 have j3:∀(v x:Int) (y:Int×BS) (b:Bool),EJ y.2->∃z,QR h v x y b=some z/\EJ z.2:=by
  intro v x y b a;unfold QR;have ⟨G,e,_,_,_,g⟩:=Ev a 14;have ⟨z2,j,_,_,_,q⟩:=Ev g x;have ⟨z3,f3,_,_,_,B⟩:=Ev q (if 1>h.AQ.BK then 1 else h.AQ.BK);have ⟨z4,Q,_,_,_,Y⟩:=Ev B (if 1>h.AQ.CZ then 1 else h.AQ.CZ);have ⟨z5,S,I⟩:=nQ Y 3;have ⟨z6,X,_,_,_,Z⟩:=Ev I x;simp only[e,j,f3,Q,S,X,OZ,AB,Bw,AV,Cp,Lk,Ll,Lm,Lo,K5,Lp,Lq,Yu,j4]
  repeat' split
  all_goals first|exact⟨_,rfl,Z⟩|exact⟨_,rfl,I⟩|exact⟨_,rfl,a⟩|exact j5 _ _ _ _ a
 have E:∀x:Int×BS,EJ x.2->∃z,W9 h x=some z/\EJ z.2:=by
  rintro⟨v,c⟩ a;unfold W9;dsimp only at a ⊢;have ⟨G,e,_,_,_,g⟩:=Ev a 12;simp only[e,OZ,AB,Bw,AV]
  repeat' split
  all_goals exact j3 _ _ _ _ g
 have hp:=hh.CP;rw[O,AB,BW];split
 .rename_i h0;have ⟨o,eo,co⟩:=nQ H 3;rw[eo,AB,AV];unfold W8;dsimp only;rw[Bw];split
  .have ⟨G,e,J,_,L,g⟩:=Ev co (h.AG.length:Int);have ⟨k,hk⟩:=Ah J;have:=L (by omega);rw[e,AB,hk,BQ (by omega),AB,AV];exact E _ g
  .rw[AV];exact E _ co
 .rw[AV];unfold W8;dsimp only;rw[Bd,AV];exact E _ H
theorem AZm(j:EJ c)(y:Br h):∃x,ABW c h=some x/\EJ x.2:=by
 have G:=y.CP;unfold ABW;have B:([4,4,5]:List Int)≠[]:=by simp
 refine Xm (n:=h.AG.length) (λi (v:BS)=>((i:Int),v)) (λ_ v=>EJ v) (λx:Bp×BS=>EJ x.2) (by omega) ?_ j;intro L i v e hi H;unfold ABY;dsimp only;rcases Aa i h.AG.length with a|q
 .rw[CF a,BT,BQ a,AB,Bw];have g:∀x:Bool×BS,EJ x.2->∃r,XJ h L i x=some r/\EJ r.2:=by
   rintro⟨b,w⟩ E;unfold XJ;dsimp only;have ⟨z,ez,cz,_⟩:=nR E B
   grind[BQ,AB,B1,Bw]
  have ⟨o,eo,co⟩:=nQ e 3;rw[eo,AB];simp only[AV];split
  .exact g _ co
  .exact g _ e
 .obtain rfl:i=h.AG.length:=by omega
  rw[C0,Bd,AV];unfold ABX;have ⟨o,eo,co⟩:=nQ e 4;have ⟨z,ez,_,_,_,cz⟩:=Ev co (if 1>(h.BB.length:Int) then 1 else (h.BB.length:Int));rw[eo,AB,Bw,OZ,AB,ez,AB];split
  .exact⟨_,rfl,co⟩
  .exact⟨_,rfl,cz⟩
theorem AZn{s:List UInt8}(j:s.length<=1048576){a:Int}(g:0<=a/\a<=1000)(h:0<=b/\b<=1000):∃n,AIR s a b=some n/\n<=1000:=by
 unfold AIR;have c:0<=(s.length:Int).tdiv 4:=Int.tdiv_nonneg (by omega) (by omega);have e:(s.length:Int).tdiv 4<=s.length:=by rw[Int.tdiv_eq_ediv_of_nonneg (by omega)];omega
 rw[BW,A7 (n:=(s.length:Int).tdiv 4) (by omega) (by omega),A7 (by omega) (by omega)];split
 .exact⟨_,rfl,by omega⟩
 grind
theorem AYp.fit(c:Ds r=true)(e:AYp r 0 h):Br h:=by
 have ⟨g,j,a3,a4,q,y,a,B,E⟩:=e;have G:=CL c;exact⟨a3,by omega,by omega,a,by omega,by omega⟩
def Sml(B:Nat)(s:Bo):Prop:=s.Log.Data.length<=B/\s.Eo.Data.length<=B/\s.Odd.Data.length<=B
theorem Sml.pu3(h:Sml B s)(c:a.Data.length<=B)(k:Int):Sml B (Se s k a):=by
 unfold Se;split
 .exact⟨h.1,c,h.2.2⟩
 .exact⟨h.1,h.2.1,c⟩
theorem Sml.sl3(h:Sml B s)(k:Int):(Cd s k).Data.length<=B:=by
 unfold Cd;split
 .exact h.2.1
 .exact h.2.2
theorem zG(hB:20000<=B)(h:a.Data.length<=B)(s:List UInt8):(Ez a s).1.Data.length<=B:=by
 grind[Ez,List.length_append]
theorem nw(a:Ch e)(p:Int):∃r,I4 e p=some r/\Ch r.1/\r.1.Laid=e.Laid/\(Sml 30000 e.An->Sml 30000 r.1.An):=by
 have ⟨r,h,_,c⟩:=U0 a p;refine⟨r,h,c,?_⟩;have ⟨n,g,y,B⟩:=RD e.An;have ⟨r',j,E,_⟩:=FM e.An n;have q:=R8 a (w64 (1-n));unfold I4 OO Ml at h;simp only[G5 a,FN a,GX,AB,AV,g,IK,Nq,Is a.D9,Mv (Aw (FE e.Av e.Seq) (by omega)),N6,j,No a.log,Um,Bw]at h
 repeat' split at h
 all_goals cases h
 all_goals refine⟨rfl,λhS=>?_⟩
 all_goals first|exact hS|exact hS.pu3 (by simp) _|exact hS.pu3 (zG (by omega) (hS.sl3 _) _) _|exact hS.pu3 (by rw[SG];exact hS.sl3 _) _|exact Sml.pu3 (s:=⟨(NS e.An.Log _).1,e.An.Eo,e.An.Odd⟩) ⟨Aw (sR _ _) hS.1,hS.2⟩ (hS.sl3 _) _
theorem oR(j:Ch e)(p:Int):∃r,jz e p=some r/\Ch r.1/\r.1.Laid=e.Laid/\(Sml 30000 e.An->Sml 30000 r.1.An):=by
 unfold jz;rw[G5 j,AB];refine LA (λx:Int×A6=>0<=x.1/\x.1<=4/\Ch x.2/\x.2.Laid=e.Laid/\(Sml 30000 e.An->Sml 30000 x.2.An)) (λx=>(4-x.1).toNat) (λr:A6×Bool=>Ch r.1/\r.1.Laid=e.Laid/\(Sml 30000 e.An->Sml 30000 r.1.An)) ?_ big (0,e) ⟨by omega,by omega,j,rfl,id⟩ (Jj _ (by simp));rintro L ⟨i,x⟩ ⟨y,B,c,a,hS⟩ q;unfold K2 j6;dsimp only at y B c a hS q ⊢;rw[Oa,AB,BW];by_cases g:i<(if p<4 then p else 4)
 .have J:i<4:=by split at g<;>omega
  rw[AW g];have ⟨r,E,G,H,I⟩:=nw c i;rw[E,AB,BM];cases r.2 with
  |false=>exact⟨(x,false),rfl,c,a,hS⟩|true=>
   rw[BT,A7 (by omega) (by omega)];exact q (i+1,r.1) ⟨by omega,by omega,G,H.trans a,λh=>I (hS h)⟩ (by dsimp only;omega)
 .rw[AT g,AV];exact⟨(x,true),rfl,c,a,hS⟩
theorem ASO{q:Bp}(h:(K8 e q).2=0):(K8 e q).1.An.Log.Safe=e.An.Log.Safe/\(K8 e q).1.An.Log.Data=e.An.Log.Data++frB (e.Seq+1) (FR q):=by
 have a:=rS h;have c:=EV a.2.1;have ew:w64 (e.Seq+1)=e.Seq+1:=A7 (by omega) (by omega);unfold K8 at h ⊢;rw[ew]at h ⊢;unfold Ez at h ⊢
 grind
theorem nS(a:EJ c):∃x,ACC c=some x/\x.1.AX.length<=5/\EJ x.2:=by
 unfold ACC Il;have ⟨r,er,lr,_,cr⟩:=AUj a;have ⟨k,ek,ck,_⟩:=nR cr (l:=[0,-1,61,13,11,9,7,6,5,4,9223372036854775807,-9223372036854775808]) (by simp);have ⟨m,em,_,_,_,cm⟩:=Ev ck 20;rw[er,AB,ek,AB,em,AB];rw[CE (by simp only[AI,AM];unfold lim;omega)];have ⟨w,ew,w0,_,w1,cw⟩:=Ev cm 6;have e:0<=w.1/\w.1<=(([60,1,2,3,4]:List Int).length:Int):=by
  have:=w1 (by omega);simp only[AI,AM];omega
 rw[Bw];split
 .rw[AV];exact⟨_,rfl,by simp only[AJ,AI,AM];omega,cm⟩
 rw[Bw];split
 .rw[AV];exact⟨_,rfl,by dsimp only;omega,cm⟩
 rw[Bw];split
 .rw[AV];exact⟨_,rfl,by dsimp only;omega,cm⟩
 rw[Bw];split
 .rw[AV];exact⟨_,rfl,by dsimp only;omega,cm⟩
 rw[Bw];split
 .rw[AV];exact⟨_,rfl,by dsimp only;omega,cm⟩
 rw[Bw];split
 .rw[AV];exact⟨_,rfl,by dsimp only;omega,cm⟩
 rw[Bw];split
 .rw[AV];exact⟨_,rfl,by dsimp only;omega,cm⟩
 rw[Bw];split
 .rw[AV];exact⟨_,rfl,by dsimp only;omega,cm⟩
 rw[Bw];split
 .rw[AV];exact⟨_,rfl,by dsimp only;omega,cm⟩
 rw[Bw];split
 .rw[ew,AB,CE (by simp only[AI,AM]at e ⊢;omega),AV];exact⟨_,rfl,Aw (List.length_take_le' _ _) (by simp),cw⟩
 .rw[AV];exact⟨_,rfl,by dsimp only;omega,cm⟩
theorem nN{s:List UInt8}(e:s.length<=1048576):∃r,ACD s=some r/\r.AX.length<=5:=by
 unfold ACD;have ⟨c,ec,a⟩:=AZo e;have ⟨x,ex,lx,_⟩:=nS a;rw[ec,AB,ex,AB];exact⟨_,rfl,lx⟩
theorem zU(c:1<=n)(e:n<=60):G4 n=(⟨⟨n,0,0,n,0⟩,[],⟨List.replicate 9 []⟩⟩,true):=by
 have a:El ⟨n,0,0,n,0⟩=true:=by
  unfold El;simp only[AF,B8,beq_iff_eq,show w64 (0+0)=0 from rfl];rw[A7 (by omega) (by omega)];omega
 unfold G4 Ly;rw[AW a];rfl
theorem ACm(a:Ds r=true):(Dx r).2=true/\RH (Dx r).1:=by
 have e:=CL a;unfold Dx;rw[AW a];refine⟨rfl,⟨a,by dsimp only;omega,by dsimp only;omega,by simp,⟨by simp,by simp,.nil,.nil⟩,?_,rfl,?_,?_⟩⟩
 .intro i hi;simp only[Ac]at hi;simp only[List.getElem_map];have c:=e.2.2.2.2.2.1 _ (Ao hi);rw[zU c.1 c.2];refine⟨rfl,rfl,?_,rfl,rfl,?_,?_⟩
  .simp[BA,AR hi]
  .unfold El;simp only[AF,B8,beq_iff_eq,show w64 (0+0)=0 from rfl];rw[A7 (by omega) (by omega)];omega
  .show (0:Int)<=_;omega
 .unfold Jx;rw[CC];intro x g;rw[(List.mem_replicate.1 g).2,B8,Ac,A7 (by omega) (by omega)];omega
 .dsimp only;rw[List.length_replicate];omega
theorem N0(h:Ec a=true)(c:a.Safe=a.Data.length)(p:Int):JX a p=a:=by
 have e:bZ a p=a.Data.length:=by
  unfold bZ;split
  .exact c
  .split<;>omega
 unfold JX;rw[AW h,e,Af,CO,<-c]
structure AXR(r:AY)(e:A6):Prop where
 nwN:Fk r=(e,true)
 nwH:e.Av=(Dx r).1
 nwR:e.Av.AQ=r
 nwB:C9 e.Av=true
 nwF:Ch e
 nwO:C8 e=true
 nwQ:e.Seq=0
 nwL:e.Laid=[]
 nwG:e.An.Log=⟨[],0⟩
 nwV:e.An.Eo=⟨DC e.Av 0,((DC e.Av 0).length:Int)⟩
 nwD:e.An.Odd=⟨[],0⟩
 nwC:WV e.An=true
 nwS:O3 e.An 0 (e.Av,0,true)
 nwT:Mp e.An 0 (e.Av,0,true)=(e.Av,0,true)
 nwU:Ow e.An 0 (e.Av,0,true)=0
 nwX:II e.An 0 (e.Av,0,true)=(e,true)
 nwY:∀l,DH e.An l=e.An
theorem AbH(I:r.AX.length<=1048576)(E:Ds r=true):∃e,AXR r e:=by
 have fe:=U6 I;have ⟨S,J⟩:=ACm E;have a:=Fm.2 J;have G:=NZ I;have hT:=FE (Dx r).1 0;have hE:Fk r=(⟨(Dx r).1,⟨⟨[],0⟩,⟨DC (Dx r).1 0,((DC (Dx r).1 0).length:Int)⟩,⟨[],0⟩⟩,0,[]⟩,true):=by unfold Fk;rw[AW S]
 have hR:(Dx r).1.AQ=r:=by unfold Dx;rw[AW E]
 rw[hE]at fe;have hread:=sS a G (q:=0) rfl;have ⟨h,H⟩:∃h,h=(Dx r).1:=⟨_,rfl⟩;rw[<-H]at hE hR a G hT fe hread J;generalize hTT:DC h 0=T at hE hT fe hread;have hA:Ec ⟨T,(T.length:Int)⟩=true:=Db.2 ⟨by dsimp only;omega,by dsimp only;omega,by dsimp only;omega⟩;have y:Ec ⟨[],0⟩=true:=rfl;have g:Fq ⟨⟨[],0⟩,⟨T,(T.length:Int)⟩,⟨[],0⟩⟩=true:=by unfold Fq;simp[hA,y]
 have B:C8 ⟨h,⟨⟨[],0⟩,⟨T,(T.length:Int)⟩,⟨[],0⟩⟩,0,[]⟩=true:=by
  unfold C8;simp only[a,g,Ce];rfl
 have L:K1 ⟨⟨[],0⟩,⟨T,(T.length:Int)⟩,⟨[],0⟩⟩ 0=some (h,0,true):=by
  unfold K1;rw[JW,AB,FZ,AB,show Cd ⟨⟨[],0⟩,⟨T,(T.length:Int)⟩,⟨[],0⟩⟩ 0=⟨T,(T.length:Int)⟩ from rfl,hA,BM,BT,CE (by dsimp only;omega),Af,CO,hread,AB]
 have s1:K1 ⟨⟨[],0⟩,⟨T,(T.length:Int)⟩,⟨[],0⟩⟩ 1=some (Iz,0,false):=by
  unfold K1;rw[JW,AB,FZ,AB,show Cd ⟨⟨[],0⟩,⟨T,(T.length:Int)⟩,⟨[],0⟩⟩ 1=⟨[],0⟩ from rfl,y,BM,BT,CE (by simp),show List.take (Int.toNat 0) ([]:List UInt8)=[] from rfl,m0,AB]
 have hN:U5 ⟨⟨[],0⟩,⟨T,(T.length:Int)⟩,⟨[],0⟩⟩=some 0:=by
  unfold U5;rw[L,s1,AB,AB];unfold XH TB;simp[Bw,AV]
 have ⟨n,q,R⟩:=mc ⟨⟨[],0⟩,⟨T,(T.length:Int)⟩,⟨[],0⟩⟩;have O:n=0:=by have:=R.im;rw[hN]at this;exact(Option.some.inj this).symm
 subst O;have Q:q=(h,0,true):=by have:=R.ir;rw[L]at this;exact(Option.some.inj this).symm
 subst Q;have j:EF ([]:List UInt8)=[]:=Fj.1 (by have:=Lt [];simpa using this);have c:Mp ⟨⟨[],0⟩,⟨T,(T.length:Int)⟩,⟨[],0⟩⟩ 0 (h,0,true)=(h,0,true):=by
  unfold Mp;rw[AW ⟨g,by omega⟩,j];rfl
 have hused:Ow ⟨⟨[],0⟩,⟨T,(T.length:Int)⟩,⟨[],0⟩⟩ 0 (h,0,true)=0:=by
  unfold Ow;rw[AW ⟨g,by omega⟩,j];rfl
 have hcalm:WV ⟨⟨[],0⟩,⟨T,(T.length:Int)⟩,⟨[],0⟩⟩=true:=by simp[WV]
 have hboot:II ⟨⟨[],0⟩,⟨T,(T.length:Int)⟩,⟨[],0⟩⟩ 0 (h,0,true)=(⟨h,⟨⟨[],0⟩,⟨T,(T.length:Int)⟩,⟨[],0⟩⟩,0,[]⟩,true):=by
  unfold II;rw[c,hused,AW ⟨rfl,hcalm⟩];rfl
 have hfall:∀l,DH ⟨⟨[],0⟩,⟨T,(T.length:Int)⟩,⟨[],0⟩⟩ l=⟨⟨[],0⟩,⟨T,(T.length:Int)⟩,⟨[],0⟩⟩:=by
  intro l;unfold DH;dsimp only;rw[N0 y rfl,N0 hA rfl,N0 y rfl]
 exact⟨_,hE,H,hR,a,fe,B,rfl,rfl,rfl,by rw[hTT],rfl,hcalm,R,c,hused,hboot,hfall⟩
theorem af{c:Bo}{a:Int}(h:Cd s k=Cd c a):Hi s k=Hi c a:=by
 unfold Hi;rw[IK,IK,h]
def ALa(x y:AE×Int×Bool):Int:=if x.2.2=true then (if y.2.2=true/\¬x.2.1>=y.2.1 then 1 else 0) else if y.2.2=true then 1 else -1
theorem UC(e:Hi s 0=some x)(g:Hi s 1=some y):Jw s=some (ALa x y):=by
 unfold Jw S9 ALa;rw[e,g,AB,AB];cases a:x.2.2<;>cases c:y.2.2<;>simp[Bw,AV,a,c];by_cases h:y.2.1<=x.2.1
 .simp[h]
 .simp[h]
def JF(e:A6)(k:Int)(a:B4):A6:=⟨e.Av,Se e.An k a,e.Seq,e.Laid⟩
theorem yg{e:A6}(a:Ch e){p:Int}{r:A6}(h:I4 e p=some (r,true)):C8 e=true/\e.Laid=[]/\∃n,Jw e.An=some n/\(n=0\/n=1) /\
 ((p=0/\r=JF e (w64 (1-n)) ⟨[],0⟩)\/(p=1/\(Ez (Cd e.An (w64 (1-n))) (DC e.Av e.Seq)).2=true/\r=JF e (w64 (1-n)) (Ez (Cd e.An (w64 (1-n))) (DC e.Av e.Seq)).1) \/
  (p=2/\r=JF e (w64 (1-n)) (Mx (Cd e.An (w64 (1-n))))) \/
  (p≠0/\p≠1/\p≠2/\∃q,Hi e.An n=some q/\(NS e.An.Log (WG q.2.1 0 (EF e.An.Log.Data))).2=true/\r=⟨e.Av,⟨(NS e.An.Log (WG q.2.1 0 (EF e.An.Log.Data))).1,e.An.Eo,e.An.Odd⟩,e.Seq,e.Laid⟩)):=by
 have ⟨n,I,O,Q⟩:=RD e.An;have ⟨q,J,S,_⟩:=FM e.An n;have L:=R8 a (w64 (1-n));unfold I4 OO Ml at h;simp only[G5 a,FN a,GX,AB,AV,I]at h;have bad:∀x:A6,(some (x,false):AA (A6×Bool))=some (r,true)->False:=λx g=>by cases g
 cases E:C8 e with
 |false=>rw[E,EM,BT,BT]at h;exact(bad _ h).elim|true=>
 rw[E,Bq,Bd]at h;by_cases G:(e.Laid.length:Int)>0
 .rw[decide_eq_true G,BT,BT]at h;exact(bad _ h).elim
 rw[decide_eq_false G,Bd]at h;cases hi:inB p 0 3 with
 |false=>rw[hi,EM,BT]at h;exact(bad _ h).elim|true=>
 rw[hi,Bq,Bd]at h;by_cases H:n<0
 .rw[decide_eq_true H,BT]at h;exact(bad _ h).elim
 simp only[decide_eq_false H,Bd,IK,AB,Nq,AV,Is a.D9,Mv (Aw (FE e.Av e.Seq) (by omega)),N6,J,No a.log,Um,G5 a,BM,BT]at h;refine⟨rfl,Fj.1 (by omega),n,I,by omega,?_⟩;cases j:p==0 with
 |true=>
  rw[j,BT]at h;cases h;exact .inl ⟨by simpa using j,rfl⟩
 |false=>
 rw[j,Bd]at h;cases y:p==1 with
 |true=>
  rw[y,BT]at h;cases c:(Ez (Cd e.An (w64 (1-n))) (DC e.Av e.Seq)).2 with
  |true=>
   rw[c,BT]at h;cases h;exact .inr (.inl ⟨by simpa using y,rfl,rfl⟩)
  |false=>rw[c,Bd]at h;exact(bad _ h).elim
 |false=>
 rw[y,Bd]at h;cases B:p==2 with
 |true=>
  rw[B,BT]at h;cases h;exact .inr (.inr (.inl ⟨by simpa using B,rfl⟩))
 |false=>
 rw[B,Bd]at h;refine .inr (.inr (.inr ⟨by simpa using j,by simpa using y,by simpa using B,q,J,?_⟩));cases c:(NS e.An.Log (WG q.2.1 0 (EF e.An.Log.Data))).2 with
 |true=>
  rw[c,BT]at h;cases h;rw[Qx];exact⟨rfl,rfl⟩
 |false=>rw[c,Bd]at h;exact(bad _ h).elim
theorem rdI{r:AE×Int×Bool}(h:K1 s k=some r):Hi s k=some r:=by
 have ⟨x,a,c,_⟩:=FM s k;rw[a,<-c,h]
theorem AGl(h:Cd s k=⟨T,0⟩)(hT:T.length<=20000):Hi s k=some (Iz,0,false):=by
 refine rdI ?_;unfold K1;rw[JW,AB,FZ,AB,h,Db.2 ⟨by dsimp only;omega,by dsimp only;omega,by dsimp only;omega⟩,BM,BT,CE (by dsimp only;omega),show List.take (Int.toNat 0) T=[] from rfl,m0,AB]
theorem AWX(a:C9 h=true)(c:Br h)(e:inB q 0 1000000=true)(g:Cd s k=⟨DC h q,((DC h q).length:Int)⟩):Hi s k=some (h,q,true):=by
 have hT:=FE h q;refine rdI ?_;unfold K1;rw[JW,AB,FZ,AB,g,Db.2 ⟨by dsimp only;omega,by dsimp only;omega,by dsimp only;omega⟩,BM,BT,CE (by dsimp only;omega),Af,CO,sS a c e,AB]
def Two(n k:Int):Prop:=n=0/\k=1\/n=1/\k=0
theorem Two.pu3(h:Two n k)(s:Bo)(a:B4):Cd (Se s k a) k=a/\Cd (Se s k a) n=Cd s n/\(Se s k a).Log=s.Log:=by
 rcases h with ⟨rfl,rfl⟩|⟨rfl,rfl⟩<;>exact⟨rfl,rfl,rfl⟩
theorem Two.ot3(h:n=0\/n=1):Two n (w64 (1-n)):=by
 rcases h with rfl|rfl
 .exact .inl ⟨rfl,rfl⟩
 .exact .inr ⟨rfl,rfl⟩
theorem Two.nw3(h:Two n k)(g:Hi s n=some x)(j:Hi s k=some y) :
 (y.2.2=false->x.2.2=true->Jw s=some n)/\(x.2.2=true->y.2.2=true->x.2.1<y.2.1->Jw s=some k)/\(x.2.2=true->y.2.2=true->x.2.1<=y.2.1->Jw s=some n\/Jw s=some k):=by
 rcases h with ⟨rfl,rfl⟩|⟨rfl,rfl⟩
 .rw[UC g j];unfold ALa;refine⟨λa c=>by simp[a,c],λa c e=>by simp[a,c];omega,λa c e=>?_⟩;by_cases q:x.2.1>=y.2.1
  .left;simp[a,q]
  .right;simp[a,c];omega
 .rw[UC j g];unfold ALa;refine⟨λa c=>by simp[a,c],λa c e=>by simp[a,c];omega,λa c e=>?_⟩;right;simp[a,c];omega
theorem Two.bd3(h:Two n k)(a:Jw s=some n)(e:Hi s n=some x):x.2.2=true:=by
 have ⟨y,g,_⟩:=FM s k;rcases h with ⟨rfl,rfl⟩|⟨rfl,rfl⟩
 .rw[UC e g]at a;unfold ALa at a;cases c:x.2.2 with|true=>rfl|false=>rw[c]at a;simp at a;split at a<;>omega
 .rw[UC g e]at a;unfold ALa at a;cases c:x.2.2 with|true=>rfl|false=>rw[c]at a;simp at a;split at a<;>omega
theorem AXF{a g j:A6}(he:Ch e)(h1:Ch a)(h2:Ch g)(a0:I4 e 0=some (a,true))(a1:I4 a 1=some (g,true))(a2:I4 g 2=some (j,true)) :
 C8 e=true/\e.Laid=[]/\∃n k x,Two n k/\Jw e.An=some n/\Hi e.An n=some x/\x.2.2=true/\Cd j.An n=Cd e.An n/\Cd j.An k=⟨DC e.Av e.Seq,((DC e.Av e.Seq).length:Int)⟩ /\
  j.An.Log=e.An.Log/\j.Av=e.Av/\j.Seq=e.Seq/\j.Laid=e.Laid:=by
 have hT:=FE e.Av e.Seq;have ⟨b0,l0,n,Z,L,Q⟩:=yg he a0;have tw:=Two.ot3 L;generalize w64 (1-n)=k at tw Q;have ⟨x,G,_⟩:=FM e.An n;have q:=tw.bd3 Z G;have h:a=JF e k ⟨[],0⟩:=by
  rcases Q with c|c|c|c
  .exact c.2
  .exact absurd c.1 (by decide)
  .exact absurd c.1 (by decide)
  .exact absurd rfl c.1
 have ⟨b1,_,m,hm,hm2,S⟩:=yg h1 a1;have p1:=tw.pu3 e.An ⟨[],0⟩;have em:m=n:=by
  have:=(tw.nw3 (s:=a.An) (x:=x) (y:=(Iz,0,false)) (by rw[h];exact(af p1.2.1).trans G) (by rw[h];exact AGl p1.1 (by simp))).1 rfl q;rw[hm]at this;exact Option.some.inj this
 subst em;have ek:w64 (1-m)=k:=by rcases tw with ⟨rfl,rfl⟩|⟨rfl,rfl⟩<;>rfl
 rw[ek]at S;have s1:Cd a.An k=⟨[],0⟩:=by rw[h];exact p1.1
 have I:Ez ⟨[],0⟩ (DC a.Av a.Seq)=(⟨DC e.Av e.Seq,0⟩,true):=by
  rw[h];unfold Ez JF;dsimp only;rw[AW ⟨rfl,by simp;omega⟩];rfl
 have B:g=JF a k ⟨DC e.Av e.Seq,0⟩:=by
  rcases S with c|c|c|c
  .exact absurd c.1 (by decide)
  .rw[c.2.2,s1,I]
  .exact absurd c.1 (by decide)
  .exact absurd rfl c.2.1
 have ⟨b2,_,m',J,Y,X⟩:=yg h2 a2;have p2:=tw.pu3 a.An ⟨DC e.Av e.Seq,0⟩;have so:Cd g.An m=Cd e.An m:=by rw[B];refine p2.2.1.trans ?_;rw[h];exact p1.2.1
 have H:m'=m:=by
  have:=(tw.nw3 (s:=g.An) (x:=x) (y:=(Iz,0,false)) ((af so).trans G) (by rw[B];exact AGl p2.1 (by omega))).1 rfl q;rw[J]at this;exact Option.some.inj this
 subst H;rw[ek]at X;have s2:Cd g.An k=⟨DC e.Av e.Seq,0⟩:=by rw[B];exact p2.1
 have O:Mx ⟨DC e.Av e.Seq,0⟩=⟨DC e.Av e.Seq,((DC e.Av e.Seq).length:Int)⟩:=by
  unfold Mx;rw[AW (Db.2 ⟨by dsimp only;omega,by dsimp only;omega,by dsimp only;omega⟩)]
 have E:j=JF g k ⟨DC e.Av e.Seq,((DC e.Av e.Seq).length:Int)⟩:=by
  rcases X with c|c|c|c
  .exact absurd c.1 (by decide)
  .exact absurd c.1 (by decide)
  .rw[c.2,s2,O]
  .exact absurd rfl c.2.2.1
 have p3:=tw.pu3 g.An ⟨DC e.Av e.Seq,((DC e.Av e.Seq).length:Int)⟩;refine⟨b0,l0,m',k,x,tw,Z,G,q,?_,?_,?_,?_,?_,?_⟩
 .rw[E];exact p3.2.1.trans so
 .rw[E];exact p3.1
 .rw[E];refine p3.2.2.trans ?_;rw[B];refine p2.2.2.trans ?_;rw[h];exact p1.2.2
 .rw[E,B,h];rfl
 .rw[E,B,h];rfl
 .rw[E,B,h];rfl
theorem AKp{e:A6}(a:Ch e){n g:Int}{q q':AE×Int×Bool}(h:O3 (DH e.An [20000,20000,20000]) n q)(y:O3 (DH e.An []) g q') :
 bF e=some (aR e (Mp (DH e.An [20000,20000,20000]) n q) (Mp (DH e.An []) g q') (Ow (DH e.An [20000,20000,20000]) n q)):=by
 have ⟨j,L,O⟩:=Lr a [20000,20000,20000];have ⟨m1,m2,m3⟩:=Lr a [];have ⟨G,Q,H⟩:=recovered j h;have ⟨s1,S,I⟩:=recovered m1 y;have J:=aS j h;have E:=(IA e.Laid a.D9).1;unfold bF QU TH;simp only[FN a,AB];cases c:C8 e with
 |false=>unfold aR;rw[c];rfl|true=>
  have B:Ec e.An.Log=true:=by have:=(EV c).2.1;unfold Fq at this;grind
  have ee:(DH e.An [20000,20000,20000]).Log.Data=e.An.Log.Data:=rX B;simp only[Ou a.D9 a.laid,PY,G,s1,J,AB,AV,Jd H E,Jd I a.D9,ee];generalize Mp (DH e.An [20000,20000,20000]) n q=r;generalize Mp (DH e.An []) g q'=r';generalize Ow (DH e.An [20000,20000,20000]) n q=u;simp only[bne];unfold aR;rw[c];cases r.2.2<;>cases (r.2.1==e.Seq)<;>cases (u==(e.An.Log.Data.length:Int))<;>cases OX r.1 (D7 e.Laid e.Av).1<;>cases r'.2.2<;>cases (r'.2.1==w64 (e.Seq-(e.Laid.length:Int)))<;>cases OX r'.1 e.Av<;>rfl
theorem HZ(h:Fq s=true):Ec s.Log=true/\Ec s.Eo=true/\Ec s.Odd=true:=by
 unfold Fq at h;simpa[AF] using h
theorem AYg(j:EJ c):∃x,ACE c=some x/\EJ x.2:=by
 unfold ACE;have ⟨k,ek,y,_,B,ck⟩:=Ev j 5;have:=B (by omega);have ⟨n,q⟩:=Ah y;rw[ek,AB];refine Xm (n:=n) (λi (v:List Int×BS)=>(v.1,(i:Int),v.2)) (λi v=>v.1.length=i/\EJ v.2) (λx:List Int×BS=>EJ x.2) (by omega) ?_ (v:=([],k.2)) ⟨rfl,ck⟩;rintro L i ⟨l,c⟩ ⟨e,a⟩ hi h;unfold ACG ACF;dsimp only at e a h ⊢;rw[q,dec_lt];rcases Aa i n with g|g
 .have ⟨x,ex,cx,_⟩:=nR a (l:=[0,1,2,5,30,-1,9223372036854775807,-9223372036854775808]) (by simp);rw[decide_eq_true g,BT,ex,AB,CE (by simp only[AI,AM];unfold lim;omega),B1 g (by omega)];exact h (_,_) ⟨by simp[e],cx⟩ g
 .rw[decide_eq_false (by omega),Bd,AV];exact⟨_,rfl,a⟩
theorem AVY{l:List Cw}(a:l.length<=1048576)(c:∀x∈l,x.Ids.length<=1048576):ACH l=some l:=by
 have hlim:lim=268435456:=rfl;unfold ACH;refine(MS (λr=>[r]) some a 1 (by simp) (v0:=[]) ?_ ?_).trans (by simp)
 .intro L i h v e;have g:=c _ (Ao h);unfold kI;dsimp only;rw[CF h,BT,BQ h,AB,AB,CE (by omega),CE (by simp at e ⊢;omega)];rfl
 grind[kI,ACI,Bd,AV]
theorem AK3(a:OA w):ACJ w=some w:=by
 have hlim:lim=268435456:=rfl;have c:=a.done;unfold ACJ;simp only[G5 a.Pk,AB,AVY a.AWY a.ids,CE (show 0+w.Kt.length<=lim by omega),MV,Cp,Bb]
def svF(w:CQ)(b:A6×Bool):Int:=if C8 w.Ar=true/\b.2=true then w64 (w64 (b.1.Seq-w.Ar.Seq)+w.Ar.Laid.length) else -1
def qh(w:CQ)(b:A6×Bool):CQ×Int:=
 if inB (svF w b) 0 w.Ar.Laid.length=false then (w,21) else
 (⟨b.1,w.Kt++w.Ar.Laid.take (svF w b).toNat,w.Ei++(D7 (w.Ar.Laid.take (svF w b).toNat) w.Ar.Av).2,w64 (w.MX+1)⟩,0)
structure Hap(w:CQ)(a:Dv)(r:CQ×Int):Prop where
 hpK:inB a.Kind 1 4=false->r=(w,26)
 hpB:inB a.Kind 1 4=true->C8 w.Ar=false->r=(w,21)
 hpL:C8 w.Ar=true->a.Kind=1->r=(⟨(K8 w.Ar a.Req).1,w.Kt,w.Ei,w.MX⟩,(K8 w.Ar a.Req).2)
 hpS:C8 w.Ar=true->a.Kind=2->r=(⟨(LJ w.Ar).1,w.Kt++w.Ar.Laid,w.Ei++(LJ w.Ar).2,w.MX⟩,0)
 hpM:C8 w.Ar=true->a.Kind=3->∃m,jz w.Ar a.N_=some m/\r=(⟨m.1,w.Kt,w.Ei,w.MX⟩,if m.2=true then 0 else 25)
 hpF:C8 w.Ar=true->a.Kind=4->∃n q,O3 (DH w.Ar.An a.Pd) n q/\r=qh w (II (DH w.Ar.An a.Pd) n q)
structure AKq(w:CQ):Prop where
 wrF:OA w
 wrD:w.Kt.length+w.Ar.Laid.length<=1048576
 wrP:w.Ei.length+w.Ar.Laid.length<=1048576
theorem oX(a:s.Log.Data.length<=1048576/\s.Eo.Data.length<=1048576/\s.Odd.Data.length<=1048576){q:AE×Int×Bool}(h:O3 s n q):Ch (II s n q).1:=by
 have ⟨_,_,c⟩:=recovered a.1 h;have e:=ANX s.Log (Ow s n q);unfold II;split
 .exact⟨c,by dsimp only;rw[SG];omega,a.2.1,a.2.2,by simp⟩
 .exact AEP
theorem AKv{s:Bo}(a:s.Log.Data.length<=1048576/\s.Eo.Data.length<=1048576/\s.Odd.Data.length<=1048576){n:Int}{q:AE×Int×Bool}(h:O3 s n q):qQ s=some (II s n q):=by
 have ⟨c,_,_⟩:=recovered a.1 h;unfold qQ jk II;simp only[c,AB,ANI,AV,aS a.1 h,ANP,Pb,N6];cases (Mp s n q).2.2 with
 |false=>rfl|true=>cases WV s<;>rfl
theorem s5(c:OA w){l:List Int}{q:AE×Int×Bool}(h:O3 (DH w.Ar.An l) n q)(a:qQ (DH w.Ar.An l)=some (II (DH w.Ar.An l) n q)):AI1 w l=some (svF w (II (DH w.Ar.An l) n q)):=by
 unfold AI1 svF;simp only[FN c.Pk,AB,PY,a];cases C8 w.Ar
 .rfl
 .cases (II (DH w.Ar.An l) n q).2<;>rfl
theorem sv{w:CQ}(O:AKq w)(a:Dv):∃r,bG w a=some r/\OA r.1/\Hap w a r:=by
 have hlim:lim=268435456:=rfl;have c:=O.wrF;have e:=c.Pk;have Z:=O.wrD;have hp:=O.wrP;have ⟨n,q,R⟩:=mc (DH w.Ar.An a.Pd);have Q:=AKv (Lr e a.Pd) R;have bf:=oX (Lr e a.Pd) R;have s1:=s5 c R Q;have ⟨m,m1,mf,_⟩:=oR e a.N_;have ⟨Y,z2,z3⟩:=sP e;have hz:(LJ w.Ar).2.length<=w.Ar.Laid.length:=by
  unfold LJ;split
  .simp
  .have:=(IA w.Ar.Laid e.D9).2.1;dsimp only;omega
 have ⟨y1,y2,X⟩:=IA (w.Ar.Laid.take (svF w (II (DH w.Ar.An a.Pd) n q)).toNat) e.D9;have yl:(w.Ar.Laid.take (svF w (II (DH w.Ar.An a.Pd) n q)).toNat).length<=w.Ar.Laid.length:=by rw[Ai];omega
 unfold bG TL AOg;simp only[AK3 c,AB,GX,BM,FN e,AUc e,ANN e,m1,s1,AV,PY,Q,List.drop_zero,FU];by_cases B:inB a.Kind 1 4=true
 case neg=>
  rw[DD]at B;have H:=B;unfold inB at H;rw[decide_eq_false_iff_not]at H;rw[B,Bd];exact⟨_,rfl,c,λ_=>rfl,by simp[B],λ_ h=>absurd h (by omega),λ_ h=>absurd h (by omega),λ_ h=>absurd h (by omega),λ_ h=>absurd h (by omega)⟩
 rw[B,BT];cases g:C8 w.Ar with
 |false=>
  rw[Bd];exact⟨_,rfl,c,by simp[B],λ_ _=>rfl,by simp[g],by simp[g],by simp[g],by simp[g]⟩
 |true=>
  rw[B8]at B;rw[BT];by_cases E:a.Kind=1
  .rw[E];refine⟨_,rfl,⟨AC0 e _,c.done,c.AWY,c.ids⟩,by simp[inB,E],by simp[g],λ_ _=>rfl,by simp[E],by simp[E],by simp[E]⟩
  by_cases G:a.Kind=2
  .rw[G,CE (by omega),CE (by omega)];refine⟨_,rfl,⟨Y,?_,?_,?_⟩,by simp[inB,G],by simp[g],by simp[G],λ_ _=>rfl,by simp[G],by simp[G]⟩
   .rw[AJ];omega
   .rw[AJ];omega
   .intro r I;rcases Bn.1 I with h|h
    .exact c.ids r h
    .exact z3 r h
  by_cases j:a.Kind=3
  .rw[j];cases S:m.2 with|false=>exact⟨_,rfl,⟨mf,c.done,c.AWY,c.ids⟩,by simp[inB,j],by simp[g],by simp[j],by simp[j],λ_ _=>⟨m,m1,by rw[S];rfl⟩,by simp[j]⟩|true=>exact⟨_,rfl,⟨mf,c.done,c.AWY,c.ids⟩,by simp[inB,j],by simp[g],by simp[j],by simp[j],λ_ _=>⟨m,m1,by rw[S];rfl⟩,by simp[j]⟩
  have y:a.Kind=4:=by omega
  rw[y,show ((4:Int)==1)=false from rfl,Bd,show ((4:Int)==2)=false from rfl,Bd,show ((4:Int)==3)=false from rfl,Bd];cases J:inB (svF w (II (DH w.Ar.An a.Pd) n q)) 0 w.Ar.Laid.length with
  |false=>
   rw[Bd,AB];exact⟨_,rfl,c,by simp[inB,y],by simp[g],by simp[y],by simp[y],by simp[y],λ_ _=>⟨n,q,R,by unfold qh;rw[AW J]⟩⟩
  |true=>
   have L:=B8.1 J;have yd:=Ou e.D9 (l:=w.Ar.Laid.take (svF w (II (DH w.Ar.An a.Pd) n q)).toNat) (by have:=e.laid;omega);have E:w.Kt.length+(w.Ar.Laid.take (svF w (II (DH w.Ar.An a.Pd) n q)).toNat).length<=lim:=by omega
   have G:w.Ei.length+(D7 (w.Ar.Laid.take (svF w (II (DH w.Ar.An a.Pd) n q)).toNat) w.Ar.Av).2.length<=lim:=by omega
   simp only[BT,Bd,CE L,CE E,CE G,yd,AB,Cp,Jo,Bq];refine⟨_,rfl,⟨bf,?_,?_,?_⟩,by simp[inB,y],by simp[g],by simp[y],by simp[y],by simp[y],λ_ _=>⟨n,q,R,by unfold qh;rw[J,AT (by simp)]⟩⟩
   .rw[AJ];omega
   .rw[AJ];omega
   .intro r I;rcases Bn.1 I with h|h
    .exact c.ids r h
    .have:=X r h;omega
theorem ANb{a:Dv}{r:CQ×Int}(B:OA w)(h:Hap w a r)(j:w.Ar.Laid.length<=8):r.1.Ar.Laid.length<=8/\r.1.Kt.length<=w.Kt.length+8/\r.1.Ei.length<=w.Ei.length+8:=by
 have e:=B.Pk;by_cases g:inB a.Kind 1 4=true
 case neg=>rw[h.hpK (by simpa using g)];exact⟨j,by dsimp only;omega,by dsimp only;omega⟩
 by_cases c:C8 w.Ar=true
 case neg=>rw[h.hpB g (by simpa using c)];exact⟨j,by dsimp only;omega,by dsimp only;omega⟩
 rw[B8]at g;by_cases G:a.Kind=1
 .rw[h.hpL c G];refine⟨?_,by dsimp only;omega,by dsimp only;omega⟩;dsimp only;unfold K8
  grind
 by_cases H:a.Kind=2
 .rw[h.hpS c H];have:=(IA w.Ar.Laid e.D9).2.1
  grind[LJ,List.length_append]
 by_cases I:a.Kind=3
 .have ⟨m,m1,m2⟩:=h.hpM c I;have ⟨O,J,_,L,_⟩:=oR e a.N_
  grind[Option.some.inj]
 have ⟨n,q,R,y⟩:=h.hpF c (by omega);rw[y];unfold qh;split
 .exact⟨j,by dsimp only;omega,by dsimp only;omega⟩
 .have:=(IA (w.Ar.Laid.take (svF w (II (DH w.Ar.An a.Pd) n q)).toNat) e.D9).2.1;have E:(II (DH w.Ar.An a.Pd) n q).1.Laid=[]:=by unfold II;split<;>rfl
  refine⟨by dsimp only;rw[E];simp,?_,?_⟩<;>(dsimp only;rw[AJ,Ai]at *;omega)
def jT(p:Int):List Bp->List UInt8| []=>[]|x::l=>frB p (FR x)++jT (p+1) l
def jF(o p:Int):List Bp->List B3| []=>[]|x::l=>⟨p,FR x,o+(frB p (FR x)).length⟩::jF (o+(frB p (FR x)).length) (p+1) l
def jOk(p:Int):List Bp->Prop| []=>True|x::l=>Pm p (FR x)/\GI x=true/\jOk (p+1) l
theorem xE:∀(t u:List Bp) (p:Int),jT p (t++u)=jT p t++jT (p+t.length) u
 | [],u,p=>by simp[jT]|b::t,u,p=>by
  simp only[Bi,jT,xE t u (p+1),BP,AI]
  grind
theorem YA:∀{t u:List Bp} {p:Int},jOk p (t++u)↔jOk p t/\jOk (p+t.length) u
 | [],u,p=>by simp[jOk]|b::t,u,p=>by
  simp only[Bi,jOk,YA (t:=t),AI,and_assoc]
  grind
theorem xD:∀{l:List Bp} {p:Int},jOk p l->∀x∈l,GI x=true
 |y::l,p,h,x,a=>by
  rcases Ad.1 a with rfl|a
  .exact h.2.1
  .exact xD h.2.2 x a
theorem ASI:∀{l:List Bp} {p:Int},jOk p l->l.length<=(jT p l).length
 | [],p,h=>by simp[jT]|b::t,p,h=>by
  have a:=PJ h.1;have c:=ASI h.2.2;simp only[jT,AJ,AI];omega
theorem AW5:∀(l:List Bp) (p:Int) (o c f:Nat) (s:List UInt8),jOk p l->s.drop o=jT p l->o<=c->c<=s.length->c<f+o ->
 ∃k,k<=l.length/\frs f (s.take c) o=jF o p (l.take k)/\o+(jT p (l.take k)).length<=c/\∀j,j<=l.length->o+(jT p (l.take j)).length<=c->j<=k
 |l,p,o,c,0,s,_,_,y,_,h=>by omega| [],p,o,c,f+1,s,g,E,J,L,X=>by
  refine⟨0,by simp,?_,by simpa[jT] using J,λj G _=>G⟩;unfold frs;have I:(Pl (s.take c) o).2=false:=by
   unfold Pl;rw[AW (by rw[Ai];omega),Af,LQ,E,UZ];intro q b y B;have:=PJ y;have Q:=B.length_le;rw[Ai]at Q;have h4:(jT p []).length=0:=rfl;omega
  rw[AT (by rw[I];simp)];rfl
 |b::t,p,o,c,f+1,s,g,E,J,L,X=>by
  have hb:=PJ g.1;have e:Pl (s.take c) o=ACe ((jT p (b::t)).take (c-o)) o:=by
   unfold Pl;rw[AW (by rw[Ai];omega),Af,LQ,E]
  have a:frB p (FR b) <+: jT p (b::t):=⟨_,rfl⟩;unfold frs;by_cases Y:o+(frB p (FR b)).length<=c
  .have S:Pl (s.take c) o=(⟨p,FR b,(o:Int)+(frB p (FR b)).length⟩,true):=by
    rw[e,AJm g.1 (AEB a (by omega))]
   rw[S,AW rfl];have O:(o:Int)+(frB p (FR b)).length=((o+(frB p (FR b)).length:Nat):Int):=by omega
   have ⟨k,Z,k2,k3,k4⟩:=AW5 t (p+1) (o+(frB p (FR b)).length) c f s g.2.2 (by rw[<-List.drop_drop,E];simp[jT]) Y L (by omega);refine⟨k+1,by simpa using Z,?_,?_,?_⟩
   .dsimp only;rw[Cu,jF,O,k2]
   .rw[Cu,jT,AJ];omega
   .intro j G H;cases j with
    |zero=>omega|succ j=>
     rw[Cu,jT,AJ]at H;have:=k4 j (by simpa using G) (by omega);omega
  .have I:(Pl (s.take c) o).2=false:=by
    rw[e,UZ];intro q b' y B;obtain⟨rfl,rfl⟩:=AJl y g.1 (B.trans (List.take_prefix _ _)) a;have:=B.length_le;rw[Ai]at this;omega
   rw[AT (by rw[I];simp)];refine⟨0,by simp,rfl,by simpa[jT] using J,λj G H=>?_⟩;cases j with
   |zero=>omega|succ j=>rw[Cu,jT,AJ]at H;omega
theorem ACf{l:List Bp}(h:jOk p l){c:Nat}(a:c<=(jT p l).length) :
 ∃k,k<=l.length/\EF ((jT p l).take c)=jF 0 p (l.take k)/\(jT p (l.take k)).length<=c/\∀j,j<=l.length->(jT p (l.take j)).length<=c->j<=k:=by
 have ⟨k,e,g,q,y⟩:=AW5 l p 0 c (c+1) (jT p l) h rfl (by omega) a (by omega)
 grind[EF,List.length_take,Nat.min_eq_left]
theorem AKD:∀{l:List Bp} {o p v:Int},(∀x∈l,GI x=true)->p<=v+1->notes (aft v (jF o p l))=l.drop (v+1-p).toNat
 | [],o,p,v,_,_=>by simp[jF,aft,notes]|x::l,o,p,v,h,q=>by
  have c:=λe (g:p+1<=e+1)=>AKD (l:=l) (o:=o+(frB p (FR x)).length) (p:=p+1) (v:=e) (λy j=>h y (Ae _ j)) g
  unfold jF aft;by_cases a:p<=v
  .rw[AW a,c v (by omega),show (v+1-p).toNat=(v+1-(p+1)).toNat+1 by omega,List.drop_succ_cons]
  .rw[AT a,AW (show p=v+1 by omega)];unfold notes;rw[mg (h x (BJ ..)),AW rfl,c (v+1) (by omega),show (v+1+1-(p+1)).toNat=0 by omega,show (v+1-p).toNat=0 by omega];rfl
theorem AUy:∀{l:List Bp} {o p v:Int},(∀x∈l,GI x=true)->p<=v+1->used v o (jF o p l)=o+(jT p l).length
 | [],o,p,v,_,_=>by simp[jF,used,jT]|x::l,o,p,v,h,g=>by
  have j:=λa (c:p+1<=a+1)=>AUy (l:=l) (o:=o+(frB p (FR x)).length) (p:=p+1) (v:=a) (λy e=>h y (Ae _ e)) c
  unfold jF used jT;rw[AJ]
  grind[mg,List.mem_cons_self]
theorem AUx:∀{l:List Bp} {o p t:Int},p<=t+1->WG t o (jF o p l)=o+(jT p (l.take (t+1-p).toNat)).length
 | [],o,p,t,_=>by simp[jF,WG,jT]|x::l,o,p,t,c=>by
  unfold jF WG;by_cases a:p<=t
  .rw[AW a,AUx (by omega),show (t+1-p).toNat=(t+1-(p+1)).toNat+1 by omega,Cu,jT,AJ];dsimp only;omega
  .rw[AT a,show (t+1-p).toNat=0 by omega];simp[jT]
theorem AXc(q:Bp):KF q=GI q:=by
 unfold KF GI RU fld inB;simp only[Bool.and_assoc]
theorem Two.sw3(h:Two n k):Two k n:=by
 rcases h with ⟨rfl,rfl⟩|⟨rfl,rfl⟩
 .exact .inr ⟨rfl,rfl⟩
 .exact .inl ⟨rfl,rfl⟩
structure HQ(h:AE)(q:Int):Prop where
 hqB:C9 h=true
 hqF:Br h
 hqQ:inB q 0 1000000=true
def Hy(h:AE)(q:Int):B4:=⟨DC h q,((DC h q).length:Int)⟩
theorem HQ.rdF(a:HQ h q)(c:Cd s k=Hy h q):Hi s k=some (h,q,true):=AWX a.hqB a.hqF a.hqQ c
theorem HQ.AVA(a:HQ h q)(l:List Bp)(c:inB p 0 1000000=true):HQ (D7 l h).1 p:=
 ⟨Fm.2 (kO l (Fm.1 a.hqB)).1,(IA l a.hqF).1,c⟩
theorem dn(h:AE)(q:Int):Ec (Hy h q)=true:=by
 grind[FE,Hy,Db]
def y9(a:B4):Prop:=∀(s:Bo) (k:Int),Cd s k=a->∃r,Hi s k=some r/\r.2.2=false
theorem AVL(a:HQ h q){m:Nat}(c:m<(DC h q).length):y9 ⟨(DC h q).take m,(m:Int)⟩:=by
 intro s k j;have ⟨r,y,e⟩:=AUZ a.hqB a.hqQ c;have hT:=FE h q;have g:((DC h q).take m).length=m:=by rw[Ai];omega
 refine⟨r,rdI ?_,e⟩
 grind[K1,JW,AB,FZ,Db,BM,BT,CE,Int.toNat_natCast,Nat.min_self]
theorem UF(hT:T.length<=20000):y9 ⟨T,0⟩:=λs k a=>⟨_,AGl a hT,rfl⟩
def mid(R:List Bp)(b q p:Int):List Bp:=(R.take (p-b).toNat).drop (q-b).toNat
theorem Tj(R:List Bp)(b q:Int):mid R b q q=[]:=by
 unfold mid;rw[List.drop_eq_nil_iff,Ai];omega
theorem AKB(R L:List Bp)(h:q<=p)(a:p<=b+R.length):mid R b q p++(R++L).drop (p-b).toNat=R.drop (q-b).toNat++L:=by
 unfold mid;rw[Ee (by omega),<-BP];congr 1
 conv=>rhs;rw[<-CY (p-b).toNat R]
 grind[List.drop_append,List.length_take,min]
def AKr(a:B4)(H:AE)(q b:Int)(R:List Bp):Prop:=
 (a.Safe=a.Data.length/\y9 a)\/(∃h p,HQ h p/\a=Hy h p/\p<=q/\(p=q->h=H))\/(∃p,q<=p/\p<=b+R.length/\a=⟨DC (D7 (mid R b q p) H).1 p,0⟩)
def AXS(a:B4)(H:AE)(q b:Int)(R:List Bp):Prop:=
 y9 a\/∃h p,HQ h p/\a=Hy h p/\(p<=q/\(p=q->h=H)\/q<=p/\p<=b+R.length/\h=(D7 (mid R b q p) H).1)
structure Leg(e:A6)(n k b q:Int)(R:List Bp)(H:AE):Prop where
 lgT:Two n k
 lgE:C8 e=true
 lgF:Ch e
 lgJ:jOk (b+1) (R++e.Laid)
 lgD:e.An.Log=⟨jT (b+1) (R++e.Laid),((jT (b+1) R).length:Int)⟩
 lgS:e.Seq=b+R.length+e.Laid.length
 lgB:0<=b/\b<=q/\q<=b+R.length
 lgH:HQ H q
 lgM:Cd e.An n=Hy H q
 lgX:e.Av=(D7 (R.drop (q-b).toNat) H).1
 lgO:AKr (Cd e.An k) H q b R
theorem ANW(hT:Two n k)(hB:b<=q/\q<=b+R.length)(hH:HQ H q)(hM:Cd s n=Hy H q)(hO:AXS (Cd s k) H q b R) :
 ∃O B q' H',Two O B/\Jw s=some O/\HQ H' q'/\Cd s O=Hy H' q'/\q<=q'/\q'<=b+R.length/\H'=(D7 (mid R b q q') H).1 /\
  (y9 (Cd s B)/\B=k\/∃h p,HQ h p/\Cd s B=Hy h p/\p<=q'/\(p=q'->h=H')):=by
 have e:=hH.rdF hM;rcases hO with hO|⟨h,p,a,j,S⟩
 .have ⟨y,Z,L⟩:=hO s k rfl;exact⟨n,k,q,H,hT,(hT.nw3 e Z).1 L rfl,hH,hM,by omega,hB.2,by rw[Tj];rfl,.inl ⟨hO,rfl⟩⟩
 .have E:=a.rdF j;have tie:p=q->h=H:=by
   rcases S with c|c
   .exact c.2
   .rintro rfl;rw[c.2.2,Tj];rfl
  by_cases G:q<p
  .have hN:=(hT.nw3 e E).2.1 rfl rfl G;rcases S with c|⟨Q,X,Y⟩
   .omega
   .exact⟨k,n,p,h,hT.sw3,hN,a,j,Q,X,Y,.inr ⟨H,q,hH,hM,Q,λg=>by omega⟩⟩
  .rcases(hT.sw3.nw3 E e).2.2 rfl rfl (show p<=q by omega) with hN|hN
   .have J:p=q:=by
     by_cases I:p<q
     .have:=(hT.sw3.nw3 E e).2.1 rfl rfl I;rw[hN]at this;rcases hT with ⟨rfl,rfl⟩|⟨rfl,rfl⟩<;>cases this
     .omega
    subst J;obtain rfl:=tie rfl;exact⟨k,n,p,h,hT.sw3,hN,a,j,by omega,hB.2,by rw[Tj];rfl,.inr ⟨h,p,hH,hM,by omega,λ_=>rfl⟩⟩
   .exact⟨n,k,q,H,hT,hN,hH,hM,by omega,hB.2,by rw[Tj];rfl,.inr ⟨h,p,a,j,by omega,tie⟩⟩
theorem lW(h:Ec a=true)(p:Int):∃c:Nat,a.Safe<=c/\c<=a.Data.length/\JX a p=⟨a.Data.take c,(c:Int)⟩/\(p=0->(c:Int)=a.Safe)/\(p=20000->c=a.Data.length):=by
 grind[Db,bZ,JX,Int.toNat_of_nonneg]
theorem Nd(h:Ec a=true)(p:Int):Ec (JX a p)=true/\(JX a p).Safe=(JX a p).Data.length:=by
 have ⟨c,e,g,j,_⟩:=lW h p
 grind[Db,List.length_take]
theorem AJj(s:Bo)(l:List Int)(k:Int):∃p,Cd (DH s l) k=JX (Cd s k) p:=by
 unfold Cd DH;split
 .exact⟨_,rfl⟩
 .exact⟨_,rfl⟩
theorem ASu(h:AKr a H q b R)(g:Ec a=true)(hH:HQ H q)(hQ:b+R.length<=1000000)(p:Int) :
 (JX a p).Safe=(JX a p).Data.length/\AXS (JX a p) H q b R:=by
 have Q:=B8.1 hH.hqQ;refine⟨(Nd g p).2,?_⟩;rcases h with ⟨I,J⟩|⟨h,e,j,rfl,y,B⟩|⟨e,y,B,rfl⟩
 .rw[N0 g I p];exact .inl J
 .rw[N0 g rfl p];exact .inr ⟨h,e,j,rfl,.inl ⟨y,B⟩⟩
 .have ⟨c,L,E,G,_⟩:=lW g p;have j:=hH.AVA (mid R b q e) (p:=e) (B8.2 (by omega));rw[G];by_cases O:c=(DC (D7 (mid R b q e) H).1 e).length
  .right
   grind[Hy,List.take_length]
  .left;exact AVL j (by dsimp only at E;omega)
theorem AWe(h:Fq s=true)(k:Int):Ec (Cd s k)=true:=by
 have ⟨_,a,c⟩:=HZ h
 grind[Cd]
theorem Leg.AOv(h:Leg e n k b q R H)(l:List Int) :
 ∃a k' q' H' m f,O3 (DH e.An l) a (H',q',true)/\m<=e.Laid.length/\(l.getD 0 0=0->m=0)/\(l.getD 0 0=20000->m=e.Laid.length)/\Mp (DH e.An l) a (H',q',true)=(f.Av,f.Seq,true) /\
  Ow (DH e.An l) a (H',q',true)=((jT (b+1) (R++e.Laid.take m)).length:Int)/\II (DH e.An l) a (H',q',true)=(f,true)/\Leg f a k' b q' (R++e.Laid.take m) H'/\f.Laid=[]/\f.Av=(D7 (e.Laid.take m) e.Av).1:=by
 have ⟨hE1,hE2,hE3,hE4,hE5⟩:=EV h.lgE;have ⟨aL,aE,aO⟩:=HZ hE2;have hS:=h.lgS;have hB:=h.lgB;have hD:=h.lgD;have ⟨c,c1,Y,c3,Z,c5⟩:=lW aL (l.getD 0 0);rw[hD]at c1 Y Z c5;dsimp only at c1 Y Z c5;have hL:(DH e.An l).Log=⟨(jT (b+1) (R++e.Laid)).take c,(c:Int)⟩:=by show JX e.An.Log _=_;rw[c3,hD]
 have ⟨j,j1,j2,j3,j4⟩:=ACf h.lgJ Y;rw[AJ]at j1;have hRj:R.length<=j:=j4 R.length (by simp) (by rw[Ca rfl];omega);have ⟨m,hm⟩:∃m,m=j-R.length:=⟨_,rfl⟩;have hml:m<=e.Laid.length:=by omega
 have E:(R++e.Laid).take j=R++e.Laid.take m:=by rw[List.take_append,BC hRj,hm]
 rw[E]at j2 j3;have y:(e.Laid.take m).length=m:=by rw[Ai];omega
 have hJ:=YA.1 h.lgJ;have hJm:jOk (b+1) (R++e.Laid.take m):=by
  have h1:=h.lgJ;rw[<-CY j (R++e.Laid),E]at h1;exact(YA.1 h1).1
 have ⟨p1,Q⟩:=AJj e.An l n;rw[h.lgM,N0 (dn H q) rfl]at Q;have ⟨p2,hp2⟩:=AJj e.An l k;have ho:=ASu h.lgO (AWe hE2 k) h.lgH (by omega) p2;rw[<-hp2]at ho;have ⟨a,k',q',H',t1,t2,t3,t4,t5,t6,t7,t8⟩:=ANW h.lgT ⟨hB.2.1,hB.2.2⟩ h.lgH Q ho.2;have hq':=B8.1 t3.hqQ;have hrd:=t3.rdF t4;have R1:O3 (DH e.An l) a (H',q',true):=by
  have ⟨n0,q0,R0⟩:=mc (DH e.An l);have G:a=n0:=Option.some.inj (t2.symm.trans R0.sn);subst G;have e2:(H',q',true)=q0:=Option.some.inj (hrd.symm.trans R0.sr);subst e2;exact R0
 have B:Fq (DH e.An l)=true:=by unfold Fq DH;simp[(Nd aL _).1,(Nd aE _).1,(Nd aO _).1]
 have hcalm:WV (DH e.An l)=true:=by unfold WV DH;simp[(Nd aL _).2,(Nd aE _).2,(Nd aO _).2]
 have O:¬a<0:=by rcases t1 with ⟨rfl,_⟩|⟨rfl,_⟩<;>omega
 have hno:notes (aft q' (EF (DH e.An l).Log.Data))=(R++e.Laid.take m).drop (q'-b).toNat:=by
  rw[hL];dsimp only;rw[j2,AKD (xD hJm) (by omega),show q'+1-(b+1)=q'-b by omega]
 have hdl:((R++e.Laid.take m).drop (q'-b).toNat).length=R.length+m-(q'-b).toNat:=by rw[BH,AJ,y]
 have g:Mp (DH e.An l) a (H',q',true)=((D7 ((R++e.Laid.take m).drop (q'-b).toNat) H').1,b+R.length+m,true):=by
  unfold Mp;rw[AW ⟨B,O⟩];dsimp only;rw[hno,hdl,show q'+((R.length+m-(q'-b).toNat:Nat):Int)=b+R.length+m by omega]
 have X:Ow (DH e.An l) a (H',q',true)=((jT (b+1) (R++e.Laid.take m)).length:Int):=by
  unfold Ow;rw[AW ⟨B,O⟩,hL];dsimp only;rw[j2,AUy (xD hJm) (by omega)];omega
 have htr:Mx (nY (DH e.An l).Log ((jT (b+1) (R++e.Laid.take m)).length:Int)).1=⟨jT (b+1) (R++e.Laid.take m),((jT (b+1) (R++e.Laid.take m)).length:Int)⟩:=by
  have hcl:((jT (b+1) (R++e.Laid)).take c).length=c:=by rw[Ai];omega
  have hA:=Db.1 (Nd aL (l.getD 0 0)).1;have S:((jT (b+1) (R++e.Laid)).take c).take (jT (b+1) (R++e.Laid.take m)).length=jT (b+1) (R++e.Laid.take m):=by
   rw[List.take_take,Nat.min_eq_left j3]
   conv=>lhs;arg 2;rw[<-CY j (R++e.Laid),E,xE]
   exact Ca rfl
  have ha:Ec (DH e.An l).Log=true:=(Nd aL _).1;have h20:c<=20000:=by have:=(Db.1 aL).1;rw[hD]at this;dsimp only at this;omega
  rw[hL]at ha ⊢;unfold nY;rw[AW ⟨ha,B8.2 ⟨by omega,by dsimp only;omega⟩⟩];dsimp only;rw[Af,S];unfold Mx;rw[AW (Db.2 ⟨by dsimp only;omega,by dsimp only;split<;>omega,by dsimp only;split<;>omega⟩)]
 have I:=oX (Lr h.lgF l) R1;have J:II (DH e.An l) a (H',q',true)=(⟨(D7 ((R++e.Laid.take m).drop (q'-b).toNat) H').1,⟨⟨jT (b+1) (R++e.Laid.take m),((jT (b+1) (R++e.Laid.take m)).length:Int)⟩,(DH e.An l).Eo,(DH e.An l).Odd⟩,b+R.length+m,[]⟩,true):=by
  unfold II;rw[g,X,AW ⟨rfl,hcalm⟩,htr]
 rw[J]at I;have hsl:∀i,Cd ⟨⟨jT (b+1) (R++e.Laid.take m),((jT (b+1) (R++e.Laid.take m)).length:Int)⟩,(DH e.An l).Eo,(DH e.An l).Odd⟩ i=Cd (DH e.An l) i:=λi=>rfl
 have hhq:=t3.AVA ((R++e.Laid.take m).drop (q'-b).toNat) t3.hqQ;refine⟨a,k',q',H',m,_,R1,hml,?_,?_,g,X,J,⟨t1,?_,I,?_,?_,?_,?_,t3,t4,rfl,?_⟩,rfl,?_⟩
 .intro h0;have G:=Z h0;rw[xE,AJ]at j3;have h2:=ASI (YA.1 hJm).2;omega
 .grind[List.take_of_length_le,Nat.le_antisymm,Nat.le_sub_of_add_le,Nat.add_comm]
 .have L:Ec ⟨jT (b+1) (R++e.Laid.take m),((jT (b+1) (R++e.Laid.take m)).length:Int)⟩=true:=by
   have:=(Db.1 aL).1;rw[hD]at this;dsimp only at this;exact Db.2 ⟨by dsimp only;omega,by dsimp only;omega,by dsimp only;omega⟩
  have ⟨_,y1,y2⟩:=HZ B;unfold C8 Fq;simp only[hhq.hqB,L,y1,y2,Ce,AM,NI,CK];rw[B8.2 (by omega)];rfl
 .rw[CV];exact hJm
 .dsimp only;rw[CV]
 .dsimp only;rw[AJ,y,AM];omega
 .rw[AJ,y];omega
 .rcases t8 with ⟨t8,rfl⟩|⟨h0,p0,u1,u2,u3,u4⟩
  .exact .inl ⟨ho.1,t8⟩
  .exact .inr (.inl ⟨h0,p0,u1,u2,u3,u4⟩)
 .have G:=QW (mid R b q q') ((R++e.Laid.take m).drop (q'-b).toNat) H;rw[AKB R _ t5 t6,QW]at G;rw[h.lgX,t7];exact(congrArg Prod.fst G).symm
theorem bP(a:Br h)(c:C9 h=true):OX h h=true:=Option.some.inj ((Jd a a).symm.trans (mq a c))
theorem Leg.AUa(h:Leg e n k b q R H):bF e=some true:=by
 have ⟨n1,k1,q1,H1,m1,X,y,a2,_,a4,B,E,a7,G,I,c⟩:=h.AOv [20000,20000,20000];have ⟨n2,k2,q2,H2,m2,g,J,b2,L,_,O,b6,b7,Q,S,a⟩:=h.AOv [];obtain rfl:=a4 rfl;obtain rfl:=L rfl;rw[AKp h.lgF y J,B,O,E];have hE:=EV h.lgE;have s1:=G.lgS;have j:=Q.lgS;have s0:=h.lgS;rw[I]at s1;rw[S]at j;simp only[AJ,CO,AM,List.take_zero]at s1 j c a;have a:g.Av=e.Av:=a;have hw:w64 (e.Seq-(e.Laid.length:Int))=e.Seq-e.Laid.length:=A7 (by omega) (by omega);have Z:=kO e.Laid (Fm.1 hE.1);have Y:=IA e.Laid h.lgF.D9;unfold aR;dsimp only;rw[h.lgE,c,a,hw,h.lgD,CO,bP Y.1 (Fm.2 Z.1),bP h.lgF.D9 hE.1,show X.Seq=e.Seq by omega,show g.Seq=e.Seq-e.Laid.length by omega];simp
theorem Leg.AXJ(h:Leg e n k b q R H):Leg (LJ e).1 n k b q (R++e.Laid) H/\(LJ e).1.Laid=[]/\LJ e=(⟨(D7 e.Laid e.Av).1,⟨⟨jT (b+1) (R++e.Laid),((jT (b+1) (R++e.Laid)).length:Int)⟩,e.An.Eo,e.An.Odd⟩,e.Seq,[]⟩,(D7 e.Laid e.Av).2):=by
 have ⟨hE1,hE2,hE3,hE4,hE5⟩:=EV h.lgE;have ⟨aL,aE,aO⟩:=HZ hE2;have hS:=h.lgS;have hB:=h.lgB;have hA:=(Db.1 aL).1;rw[h.lgD]at hA;dsimp only at hA;have g:LJ e=(⟨(D7 e.Laid e.Av).1,⟨⟨jT (b+1) (R++e.Laid),((jT (b+1) (R++e.Laid)).length:Int)⟩,e.An.Eo,e.An.Odd⟩,e.Seq,[]⟩,(D7 e.Laid e.Av).2):=by
  unfold LJ Mx;rw[AT (by rw[h.lgE];simp),AW aL,h.lgD]
 have j:=(sP h.lgF).1;have a:=h.lgH.AVA (R.drop (q-b).toNat) h.lgH.hqQ;rw[<-h.lgX]at a;have a:=a.AVA e.Laid h.lgH.hqQ;rw[g]at j ⊢;refine⟨⟨h.lgT,?_,j,?_,?_,?_,?_,h.lgH,h.lgM,?_,?_⟩,rfl,rfl⟩
 .unfold C8 Fq;have c:Ec ⟨jT (b+1) (R++e.Laid),((jT (b+1) (R++e.Laid)).length:Int)⟩=true:=Db.2 ⟨by dsimp only;omega,by dsimp only;omega,by dsimp only;omega⟩;simp only[a.hqB,c,aE,aO,Ce,AM,NI,CK];rw[B8.2 (by omega)];rfl
 .rw[CV];exact h.lgJ
 .dsimp only;rw[CV]
 .dsimp only;rw[AJ,AM];omega
 .rw[AJ];omega
 .dsimp only;rw[h.lgX,Ee (by omega),QW]
 .rcases h.lgO with o|o|⟨p,y,E,B⟩
  .exact .inl o
  .exact .inr (.inl o)
  .refine .inr (.inr ⟨p,y,by rw[AJ];omega,?_⟩);have:mid (R++e.Laid) b q p=mid R b q p:=by unfold mid;rw[List.take_append_of_le_length (by omega)]
   rw[this];exact B
theorem Leg.Aap(h:Leg e n k b q R H)(x:Bp):Leg (K8 e x).1 n k b q R H:=by
 by_cases y:(K8 e x).2=0
 .have ⟨B,X,J,L,g,E⟩:=rS y;have ⟨Q,S⟩:=ASO y;have hS:=h.lgS;have hB:=h.lgB;have O:=EV B;have a:(K8 e x).1.An.Eo=e.An.Eo/\(K8 e x).1.An.Odd=e.An.Odd:=by unfold K8;split;exact⟨rfl,rfl⟩;split;exact⟨rfl,rfl⟩;split;exact⟨rfl,rfl⟩;split;exact⟨rfl,rfl⟩;exact⟨rfl,rfl⟩
  have c:∀i,Cd (K8 e x).1.An i=Cd e.An i:=λi=>by unfold Cd;rw[a.1,a.2]
  have G:GI x=true:=by rw[<-AXc];exact J
  have j:Pm (e.Seq+1) (FR x):=⟨by rw[E]at O;omega,by
   have Y:=ADi x;have Z:=JL.2 (yE G);omega⟩
  refine⟨h.lgT,B,AC0 h.lgF x,?_,?_,?_,h.lgB,h.lgH,(c n).trans h.lgM,L.trans h.lgX,?_⟩
  .rw[g,<-BP];refine YA.2 ⟨h.lgJ,?_,G,trivial⟩;rw[AJ,show b+1+((R.length+e.Laid.length:Nat):Int)=e.Seq+1 by omega];exact j
  .have I:(K8 e x).1.An.Log=⟨(K8 e x).1.An.Log.Data,(K8 e x).1.An.Log.Safe⟩:=rfl;rw[I,Q,S,g,<-BP,xE (R++e.Laid),h.lgD,AJ,show b+1+((R.length+e.Laid.length:Nat):Int)=e.Seq+1 by omega];simp[jT]
  .rw[g,E,AJ,List.length_singleton];omega
  .rw[c k];exact h.lgO
 .rw[ASN y];exact h
theorem Yo(g:Ch e)(y:C8 e=true)(B:Jw e.An=some n)(h:¬n<0)(p:Int)(E:inB p 0 3=true) :
 (e.Laid≠[]->I4 e p=some (e,false))/\(e.Laid=[] ->
 (p=0->I4 e p=some (JF e (w64 (1-n)) ⟨[],0⟩,true)) /\
 (∀a,p=1->Ez (Cd e.An (w64 (1-n))) (DC e.Av e.Seq)=(a,true)->I4 e p=some (JF e (w64 (1-n)) a,true)) /\
 (p=2->I4 e p=some (JF e (w64 (1-n)) (Mx (Cd e.An (w64 (1-n)))),true)) /\
 (∀q a,p=3->Hi e.An n=some q->NS e.An.Log (WG q.2.1 0 (EF e.An.Log.Data))=(a,true)->I4 e p=some (⟨e.Av,⟨a,e.An.Eo,e.An.Odd⟩,e.Seq,e.Laid⟩,true))):=by
 have ⟨q,H,J,_⟩:=FM e.An n;have I:=R8 g (w64 (1-n));unfold I4 OO Ml;simp only[G5 g,FN g,GX,AB,AV,B,y,Bq,Bd,E,decide_eq_false h,IK,Nq,Is g.D9,Mv (Aw (FE e.Av e.Seq) (by omega)),N6,H,No g.log,Um,BM,BT];refine⟨λc=>?_,λc=>⟨?_,?_,?_,?_⟩⟩
 .rw[decide_eq_true (by have:=JL.2 c;omega),BT]
 all_goals rw[c,show decide ((([]:List Bp).length:Int)>0)=false from rfl,Bd]
 .rintro rfl;rw[<-c];rfl
 .rintro a rfl j;rw[j,<-c];rfl
 .rintro rfl;rw[<-c];rfl
 .rintro q' a rfl G j;cases G;rw[j,Qx,<-c];rfl
theorem Two.nn3(h:Two n k):¬n<0/\w64 (1-n)=k:=by rcases h with ⟨rfl,rfl⟩|⟨rfl,rfl⟩<;>exact⟨by omega,rfl⟩
theorem rp(h:Fq s=true)(c:Ec a=true)(k:Int):Fq (Se s k a)=true:=by
 grind[HZ,Se,Fq]
theorem Leg.AYY(h:Leg e n k b q R H)(c:Ec a=true)(g:AKr a H q b R):Leg (JF e k a) n k b q R H/\Cd (JF e k a).An k=a:=by
 have ⟨p1,p2,p3⟩:=h.lgT.pu3 e.An a;have hE:=h.lgE;have ⟨_,hE2,_⟩:=EV hE;have j:=rp hE2 c k;refine⟨⟨h.lgT,?_,YP h.lgF (by have:=Db.1 c;omega),h.lgJ,p3.trans h.lgD,h.lgS,h.lgB,h.lgH,p2.trans h.lgM,h.lgX,?_⟩,p1⟩
 .grind[C8,JF]
 .show AKr (Cd (Se e.An k a) k) H q b R;rw[p1];exact g
theorem Leg.ANW(h:Leg e n k b q R H)(hO:AXS (Cd e.An k) H q b R)(g:(Cd e.An k).Safe=(Cd e.An k).Data.length) :
 ∃n k q' H',Leg e n k b q' R H'/\Jw e.An=some n/\q<=q':=by
 have hB:=h.lgB;have ⟨y,j,q',H',t1,t2,t3,t4,t5,t6,t7,t8⟩:=Lv.P.ANW h.lgT hB.2 h.lgH h.lgM hO;refine⟨y,j,q',H',⟨t1,h.lgE,h.lgF,h.lgJ,h.lgD,h.lgS,by omega,t3,t4,?_,?_⟩,t2,t5⟩
 .have a:=QW (mid R b q q') ((R++[]).drop (q'-b).toNat) H;rw[AKB R [] t5 t6,CV,CV]at a;rw[h.lgX,t7,a]
 .rcases t8 with ⟨t8,rfl⟩|⟨c,p0,B,E,G,I⟩
  .exact .inl ⟨g,t8⟩
  .exact .inr (.inl ⟨c,p0,B,E,G,I⟩)
theorem Leg.AXG(h:Leg e n k b q R H):∃n k q' H',Leg e n k b q' R H'/\Jw e.An=some n:=by
 rcases h.lgO with ⟨g,c⟩|⟨E,p,g,c,B,I⟩|⟨p,g,c,B⟩
 .have ⟨n,k,q',H',a,b,_⟩:=h.ANW (.inl c) g;exact⟨n,k,q',H',a,b⟩
 .have ⟨n,k,q',H',a,b,_⟩:=h.ANW (.inr ⟨E,p,g,c,.inl ⟨B,I⟩⟩) (by rw[c];rfl);exact⟨n,k,q',H',a,b⟩
 .have hT:=FE (D7 (mid R b q p) H).1 p;have ⟨y,G,j⟩:=UF (T:=DC (D7 (mid R b q p) H).1 p) (by omega) e.An k B;exact⟨n,k,q,H,h,(h.lgT.nw3 (h.lgH.rdF h.lgM) G).1 j rfl⟩
def Pe(e:A6):Prop:=∃n k b q R H,Leg e n k b q R H
theorem Leg.ASY(h:Pe e)(O:e.Laid=[]):∃e1 g e3 e4,I4 e 0=some (e1,true)/\I4 e1 1=some (g,true)/\I4 g 2=some (e3,true)/\I4 e3 3=some (e4,true) /\
 ∀f∈[e1,g,e3,e4],Pe f/\f.Av=e.Av/\f.Seq=e.Seq/\f.Laid=[]:=by
 have ⟨n0,k0,b,q0,R,H0,h⟩:=h;have ⟨n,k,q,H,h,hN⟩:=h.AXG;have hT:=FE e.Av e.Seq;have hB:=h.lgB;have hS:=h.lgS;have hE:=EV h.lgE;rw[O,AM]at hS;have hX:=h.lgX;have ⟨c1,c2⟩:=h.lgT.nn3;have ⟨l1,s1⟩:=h.AYY (a:=⟨[],0⟩) rfl (.inl ⟨rfl,UF (by simp)⟩);have m1:=((Yo h.lgF h.lgE hN c1 0 rfl).2 O).1 rfl;rw[c2]at m1;have N1:Jw (JF e k ⟨[],0⟩).An=some n:=by
  have ⟨y,hy,L⟩:=UF (T:=[]) (by simp) _ k s1;exact(h.lgT.nw3 (h.lgH.rdF l1.lgM) hy).1 L rfl
 have G:(D7 (mid R b q e.Seq) H).1=e.Av:=by
  rw[hX];unfold mid;rw[BC (by omega)]
 have Y:Ec ⟨DC e.Av e.Seq,0⟩=true:=Db.2 ⟨by dsimp only;omega,by dsimp only;omega,by dsimp only;omega⟩;have po:AKr ⟨DC e.Av e.Seq,0⟩ H q b R:=.inr (.inr ⟨e.Seq,by omega,by omega,by rw[G]⟩);have ⟨E,s2⟩:=l1.AYY Y po;have m2:=((Yo l1.lgF l1.lgE N1 c1 1 rfl).2 O).2.1 ⟨DC e.Av e.Seq,0⟩ rfl (by
  rw[c2,s1];unfold Ez JF;dsimp only;rw[AW ⟨rfl,by simp;omega⟩];rfl)
 rw[c2]at m2;have N2:Jw (JF (JF e k ⟨[],0⟩) k ⟨DC e.Av e.Seq,0⟩).An=some n:=by
  have ⟨y,hy,L⟩:=UF (T:=DC e.Av e.Seq) (by omega) _ k s2;exact(h.lgT.nw3 (h.lgH.rdF E.lgM) hy).1 L rfl
 have m3:=((Yo E.lgF E.lgE N2 c1 2 rfl).2 O).2.2.1 rfl;rw[c2,s2,show Mx ⟨DC e.Av e.Seq,0⟩=Hy e.Av e.Seq by unfold Mx;rw[AW Y];rfl]at m3;have ⟨g,S⟩:∃x,x=JF (JF e k ⟨[],0⟩) k ⟨DC e.Av e.Seq,0⟩:=⟨_,rfl⟩;have B:g.Av=e.Av/\g.Seq=e.Seq/\g.Laid=[]:=by rw[S];exact⟨rfl,rfl,O⟩
 rw[<-S]at m2 m3 E s2;have hHQ:HQ e.Av e.Seq:=⟨hE.1,h.lgF.D9,B8.2 (by omega)⟩;have hl3:Leg (JF g k ⟨[],0⟩) n k b q R H:=(E.AYY (a:=⟨[],0⟩) rfl (.inl ⟨rfl,UF (by simp)⟩)).1;have ⟨p1,p2,p3⟩:=h.lgT.pu3 g.An (Hy e.Av e.Seq);have Z:=rp (EV E.lgE).2.1 (dn e.Av e.Seq) k;have ⟨n',Q,q',H',t1,t2,t3,t4,t5,t6,t7,t8⟩:=Lv.P.ANW (s:=(JF g k (Hy e.Av e.Seq)).An) h.lgT hB.2 h.lgH (p2.trans E.lgM) (.inr ⟨e.Av,e.Seq,hHQ,p1,.inr ⟨by omega,by omega,G.symm⟩⟩);have hqe:q'=e.Seq/\H'=e.Av/\(y9 (Cd (JF g k (Hy e.Av e.Seq)).An Q)->False):=by
  have hk:=hHQ.rdF (s:=(JF g k (Hy e.Av e.Seq)).An) p1;have hm:=h.lgH.rdF (s:=(JF g k (Hy e.Av e.Seq)).An) (p2.trans E.lgM);have nb:∀i x,Hi (JF g k (Hy e.Av e.Seq)).An i=some x->x.2.2=true->y9 (Cd (JF g k (Hy e.Av e.Seq)).An i)->False:=by
   intro i x hx hx2 hb;have ⟨r,r1,r2⟩:=hb _ i rfl;rw[hx]at r1;cases r1;rw[hx2]at r2;cases r2
  have hd:=t3.rdF t4;have hnk:(n'=n/\Q=k)\/(n'=k/\Q=n):=by
   rcases h.lgT with ⟨rfl,rfl⟩|⟨rfl,rfl⟩<;>rcases t1 with ⟨rfl,rfl⟩|⟨rfl,rfl⟩<;>simp
  rcases hnk with ⟨rfl,rfl⟩|⟨rfl,rfl⟩
  .rw[hm]at hd;cases hd;refine⟨?_,?_,nb _ _ hk rfl⟩
   .by_cases J:q<e.Seq
    .have:=(h.lgT.nw3 hm hk).2.1 rfl rfl J;rw[t2]at this;rcases t1 with ⟨rfl,rfl⟩|⟨rfl,rfl⟩<;>cases this
    .omega
   .by_cases J:q<e.Seq
    .have:=(h.lgT.nw3 hm hk).2.1 rfl rfl J;rw[t2]at this;rcases t1 with ⟨rfl,rfl⟩|⟨rfl,rfl⟩<;>cases this
    .rw[<-G,show e.Seq=q by omega,Tj];rfl
  .rw[hk]at hd;cases hd;exact⟨rfl,rfl,nb _ _ hm rfl⟩
 obtain⟨rfl,rfl,X⟩:=hqe;have hE2:=EV E.lgE;have hO3:AKr (Cd (JF g k (Hy e.Av e.Seq)).An Q) e.Av e.Seq b R:=by
  rcases t8 with ⟨t8,_⟩|⟨h0,p0,u1,u2,u3,u4⟩
  .exact(X t8).elim
  .exact .inr (.inl ⟨h0,p0,u1,u2,u3,u4⟩)
 have hE3:C8 (JF g k (Hy e.Av e.Seq))=true:=by
  have:=E.lgE;unfold C8 JF at *;dsimp only;rw[Z];rw[hE2.2.1]at this;exact this
 have I:Leg (JF g k (Hy e.Av e.Seq)) n' Q b e.Seq R e.Av:=by
  refine⟨t1,hE3,YP E.lgF (by have:=Db.1 (dn e.Av e.Seq);omega),E.lgJ,p3.trans E.lgD,E.lgS,by omega,t3,t4,?_,hO3⟩;rw[A1 (by omega)];exact B.1
 have ⟨d1,d2⟩:=t1.nn3;have hD:=I.lgD;rw[show (JF g k (Hy e.Av e.Seq)).Laid=[] from B.2.2,CV]at hD;have hJ:=I.lgJ;rw[show (JF g k (Hy e.Av e.Seq)).Laid=[] from B.2.2,CV]at hJ;have hA:=Db.1 (HZ Z).1;have hfr:EF (JF g k (Hy e.Av e.Seq)).An.Log.Data=jF 0 (b+1) R:=by
  rw[hD];have ⟨j,j1,j2,j3,j4⟩:=ACf hJ (c:=(jT (b+1) R).length) (Ab _);have:=j4 R.length (Ab _) (by rw[CO];exact Ab _);rw[CO,BC this]at j2;exact j2
 have m4:=((Yo I.lgF I.lgE t2 d1 3 rfl).2 B.2.2).2.2.2 _ ⟨[],0⟩ rfl (t3.rdF t4) (by
  rw[hfr];dsimp only;rw[AUx (by omega),BC (by omega),hD];unfold NS;have hlA:=(HZ (EV I.lgE).2.1).1;rw[hD]at hlA;rw[AW ⟨hlA,B8.2 ⟨by omega,by dsimp only;omega⟩,rfl⟩];dsimp only;rw[show ((0:Int)+((jT (b+1) R).length:Int)).toNat=(jT (b+1) R).length by omega,Ck,show ((jT (b+1) R).length:Int)-(0+((jT (b+1) R).length:Int))=0 by omega])
 refine⟨_,_,_,_,m1,m2,m3,m4,?_⟩;intro f hf;simp only[Ad,H5,or_false]at hf;rcases hf with rfl|rfl|rfl|rfl
 .exact⟨⟨_,_,_,_,_,_,l1⟩,rfl,rfl,O⟩
 .exact⟨⟨_,_,_,_,_,_,E⟩,B⟩
 .exact⟨⟨_,_,_,_,_,_,I⟩,B⟩
 .refine⟨⟨n',Q,e.Seq,e.Seq,[],e.Av,t1,?_,⟨I.lgF.D9,by simp,I.lgF.even,I.lgF.odd,I.lgF.laid⟩,?_,?_,?_,by simp;omega,t3,t4,?_,?_⟩,B⟩
  .have hE4:=I.lgE;have ⟨y1,y2,y3⟩:=HZ (EV hE4).2.1;unfold C8 Fq at *;dsimp only at *;rw[y2,y3];rw[y1,y2,y3]at hE4;exact hE4
  .rw[show (JF g k (Hy e.Av e.Seq)).Laid=[] from B.2.2];trivial
  .rw[show (JF g k (Hy e.Av e.Seq)).Laid=[] from B.2.2];rfl
  .show g.Seq=_;rw[show (JF g k (Hy e.Av e.Seq)).Laid=[] from B.2.2,B.2.1];simp
  .rw[show (([]:List Bp).drop (e.Seq-e.Seq).toNat)=[] by simp];exact B.1
  .rcases t8 with ⟨t8,_⟩|⟨h0,p0,u1,u2,u3,u4⟩
   .exact(X t8).elim
   .exact .inr (.inl ⟨h0,p0,u1,u2,u3,u4⟩)
theorem Pe.AVw(h:Pe e):Ch e:=by have ⟨_,_,_,_,_,_,h⟩:=h;exact h.lgF
theorem Pe.okE(h:Pe e):C8 e=true:=by have ⟨_,_,_,_,_,_,h⟩:=h;exact h.lgE
theorem Pe.AXF(h:Pe e)(p:Int):∃m,jz e p=some m/\Pe m.1/\m.1.Av=e.Av/\m.1.Seq=e.Seq/\m.1.Laid=e.Laid:=by
 have B:=h.AVw;unfold jz;rw[G5 B,AB];have ⟨n,Q⟩:=OH 5 (by omega);rw[Q];have go:∀(i j:Int) (m:Nat) (e c:A6),j=i+1->0<=i->i<4->i<p->I4 e i=some (c,true)->BE (K2 p) (m+1) (i,e)=BE (K2 p) m (j,c):=by
  grind[Di,BE,K2,Oa,AB,BW,BM,BT,A7]
 have stop:∀(m:Nat) (i:Int) (e:A6),(i=4\/p<=i)->BE (K2 p) (m+1) (i,e)=some (e,true):=by
  intro m i e h;rw[Di];unfold K2 j6;dsimp only;rw[Oa,AB,BW,AT (by split<;>omega),AV]
 by_cases O:p<=0
 .rw[stop _ _ _ (.inr O)];exact⟨_,rfl,h,rfl,rfl,rfl⟩
 by_cases a:e.Laid=[]
 .have ⟨c,H,I,J,E,G,a3,a4,y⟩:=Leg.ASY h a;have Y:=y c (by simp);have g:=y H (by simp);have f3:=y I (by simp);have q:=y J (by simp);rw[go 0 1 _ _ _ rfl (by omega) (by omega) (by omega) E];by_cases Z:p<=1
  .grind
  rw[go 1 2 _ _ _ rfl (by omega) (by omega) (by omega) G];by_cases h2:p<=2
  .rw[stop _ _ _ (.inr (by omega))];exact⟨_,rfl,g.1,g.2.1,g.2.2.1,g.2.2.2.trans a.symm⟩
  rw[go 2 3 _ _ _ rfl (by omega) (by omega) (by omega) a3];by_cases h3:p<=3
  .rw[stop _ _ _ (.inr (by omega))];exact⟨_,rfl,f3.1,f3.2.1,f3.2.2.1,f3.2.2.2.trans a.symm⟩
  rw[go 3 4 _ _ _ rfl (by omega) (by omega) (by omega) a4,stop _ _ _ (.inl rfl)];exact⟨_,rfl,q.1,q.2.1,q.2.2.1,q.2.2.2.trans a.symm⟩
 .have ⟨n1,k1,X,q1,R1,H1,hL⟩:=h;have ⟨n0,k0,q0,H0,hG,hN⟩:=hL.AXG;have S:=(Yo B hG.lgE hN hG.lgT.nn3.1 0 rfl).1 a;rw[Di];generalize BE (K2 p) (n+1+4)=L;unfold K2;dsimp only;rw[Oa,AB,BW,AW (by split<;>omega),S,AB,BM,Bd];exact⟨_,rfl,⟨_,_,_,_,_,_,hL⟩,rfl,rfl,rfl⟩
theorem AOw(h:Pe w.Ar){l:List Int}{q:AE×Int×Bool}(R:O3 (DH w.Ar.An l) n q) :
 ∃m f,m<=w.Ar.Laid.length/\Pe f/\f.Laid=[]/\f.Av=(D7 (w.Ar.Laid.take m) w.Ar.Av).1/\f.Seq=w.Ar.Seq-w.Ar.Laid.length+m /\
  qh w (II (DH w.Ar.An l) n q)=(⟨f,w.Kt++w.Ar.Laid.take m,w.Ei++(D7 (w.Ar.Laid.take m) w.Ar.Av).2,w64 (w.MX+1)⟩,0)/\(l.getD 0 0=0->m=0)/\(l.getD 0 0=20000->m=w.Ar.Laid.length)/\svF w (II (DH w.Ar.An l) n q)=m:=by
 have ⟨X,S,L,q1,R1,H1,hL⟩:=h;have ⟨y,Q,q',H',m,f,e,B,a3,a4,I,J,E,g,j,a⟩:=hL.AOv l;have G:y=n:=Option.some.inj (e.sn.symm.trans R.sn);subst G;have H:(H',q',true)=q:=Option.some.inj (e.sr.symm.trans R.sr);subst H;have hE:=EV hL.lgE;have Y:=hL.lgS;have s1:=g.lgS;have O:=hL.lgB;rw[j,AJ,Ai,AM]at s1;have c:svF w (II (DH w.Ar.An l) y (H',q',true))=m:=by
  unfold svF;rw[E,AW ⟨hL.lgE,rfl⟩]
  grind[A7]
 refine⟨m,f,B,⟨_,_,_,_,_,_,g⟩,j,a,by omega,?_,a3,a4,c⟩
 grind[qh,B8,Int.toNat_natCast]
theorem AVy{a:Dv}{r:CQ×Int}(H:Hap w a r)(h:Pe w.Ar):Pe r.1.Ar:=by
 by_cases e:inB a.Kind 1 4=true
 case neg=>rw[H.hpK (by simpa using e)];exact h
 have c:=h.okE;rw[B8]at e;by_cases g:a.Kind=1
 .rw[H.hpL c g];have ⟨_,_,_,_,_,_,h⟩:=h;exact⟨_,_,_,_,_,_,h.Aap a.Req⟩
 by_cases j:a.Kind=2
 .rw[H.hpS c j];have ⟨_,_,_,_,_,_,h⟩:=h;exact⟨_,_,_,_,_,_,h.AXJ.1⟩
 by_cases y:a.Kind=3
 .have ⟨m,m1,m2⟩:=H.hpM c y;have ⟨E,G,I,_⟩:=h.AXF a.N_
  grind
 have ⟨n,q,R,B⟩:=H.hpF c (by omega)
 grind[AOw]
theorem AXR.Aa3(h:AXR r e):Pe e:=by
 have hB:=h.nwB;refine⟨0,1,0,0,[],e.Av,.inl ⟨rfl,rfl⟩,h.nwO,h.nwF,?_,?_,?_,by simp,⟨hB,h.nwF.D9,rfl⟩,h.nwV,rfl,.inl ?_⟩
 .rw[h.nwL];trivial
 .rw[h.nwL,h.nwG];rfl
 .rw[h.nwL,h.nwQ];rfl
 .show e.An.Odd.Safe=(e.An.Odd.Data.length:Int)/\y9 e.An.Odd;rw[h.nwD];exact⟨rfl,UF (by simp)⟩
structure WSm(i:Nat)(w:CQ):Prop where
 wsF:OA w
 wsL:w.Ar.Laid.length<=8
 wsD:w.Kt.length<=8*i
 wsR:w.Ei.length<=8*i
theorem WSm.AY6(h:WSm i w)(hi:i<=1000)(a:Dv):∃r,bG w a=some r/\WSm (i+1) r.1/\Hap w a r:=by
 have y:=h.wsL;have B:=h.wsD;have E:=h.wsR;have ⟨r,g,e,H⟩:=sv (w:=w) ⟨h.wsF,by omega,by omega⟩ a;have ⟨c,j,q⟩:=ANb h.wsF H h.wsL;exact⟨r,g,⟨e,c,by omega,by omega⟩,H⟩
theorem cI(c:r.AX.length<=1048576)(i:Nat):WSm i (Ha r).1:=by
 have a:(Ha r).1.Ar.Laid=[]/\(Ha r).1.Kt=[]/\(Ha r).1.Ei=[]:=by
  unfold Ha Fk;split<;>(try split)<;>exact⟨rfl,rfl,rfl⟩
 exact⟨yy c,by rw[a.1];simp,by rw[a.2.1];simp,by rw[a.2.2];simp⟩
theorem AUi{n:Int}{L:List Dv×Int×BS×CQ->AA (List Dv×BS)}{l:List Dv}(e:EJ c)(q:WSm i w)(hi:i<=1000)(j:l.length=i)
 (B:∀l' g w',EJ g->WSm (i+1) w'->l'.length=i+1->∃x,L (l',((i+1:Nat):Int),g,w')=some x/\EJ x.2/\x.1.length<=1001) :
 ∃x,OQ n L (l,(i:Int),c,w)=some x/\EJ x.2/\x.1.length<=1001:=by
 have h:=q.wsF.Pk.D9;have J7:∀c a,EJ c->∃x,Xd L l (i:Int) w (c,a)=some x/\EJ x.2/\x.1.length<=1001:=by
  intro c a e;unfold Xd;dsimp only;rw[CE (by simp only[AI,AM,j];unfold lim;omega),List.getLast?_concat,AB];have ⟨r,E,G,_⟩:=q.AY6 hi ⟨a.Kind,a.Req,a.N_,a.Pd⟩;rw[E,AB,show w64 ((i:Int)+1)=((i+1:Nat):Int) by rw[A7 (by omega) (by omega)];omega];exact B _ _ _ e G (by simp[j])
 have J6:∀c a,EJ c->∃x,OP L l (i:Int) w (c,a)=some x/\EJ x.2/\x.1.length<=1001:=by
  intro c a e;unfold OP;dsimp only;have ⟨o,eo,co⟩:=nQ e 40;have ⟨k,ek,_,_,_,ck⟩:=Ev co 7;rw[eo,AB,ek,AB,Bw,AV,AV];split
  .exact J7 _ _ ck
  .exact J7 _ _ co
 have J8:∀(x:Bp×BS) (y:Int×BS) b,EJ y.2->∃z,Xe L l (i:Int) w x y b=some z/\EJ z.2/\z.1.length<=1001:=by
  intro x y b e;unfold Xe;have ⟨z,ez,cz⟩:=AZm e h;rw[ez,AB,Bw,AV,AV];split
  .exact J6 _ _ cz
  .exact J6 _ _ e
 have J5:∀(x:Bp×BS) (y:Int×BS) b,EJ y.2->∃z,TN L l (i:Int) w x y b=some z/\EJ z.2/\z.1.length<=1001:=by
  intro x y b e;unfold TN;have ⟨k,ek,_,_,_,ck⟩:=Ev e 6;have ⟨z,ez,cz⟩:=AYg e;rw[ek,AB,ez,AB,Bw,Bw,Bw,Bw,AV,AV,AV,AV,AV];split
  .exact J6 _ _ e
  split
  .exact J6 _ _ ck
  split
  .exact J6 _ _ cz
  split
  .exact J8 _ _ _ e
  .exact J8 _ _ _ e
 unfold OQ Xf;dsimp only;have ⟨x,ex,cx⟩:=AbK e h;have ⟨y,ey,_,_,_,cy⟩:=Ev cx 10;rw[ex,AB,ey,AB,Bw,Bw,Bw,AV,AV,AV,AV];split
 .split
  .exact J5 _ _ _ cy
  split
  .exact J5 _ _ _ cy
  .exact J5 _ _ _ cy
 grind
theorem AUh{n:Int}(y:n<=1000):∀(k i:Nat) (l:List Dv) (c:BS) (w:CQ),1001<k+i->i<=1001->EJ c->WSm i w->l.length=i->∃x,BE (OQ n) k (l,(i:Int),c,w)=some x/\EJ x.2/\x.1.length<=1001
 |0,i,l,c,w,h,g,_,_,_=>absurd h (by omega)|k+1,i,l,c,w,h,g,j,B,q=>by
  rw[Di];by_cases hi:i<=1000
  .exact AUi j B hi q λl' e w' a b d=>AUh y k (i+1) l' e w' (by omega) (by omega) a b d
  .unfold OQ Xf;dsimp only;rw[decide_eq_false (by omega),Bd,AV]
   grind
theorem AZl(h:EJ c)(q:WSm 0 w)(j:n<=1000):∃x,AJP c w n=some x/\EJ x.2/\x.1.length<=1001:=by
 have e:AJP c w n=OQ n (BE (OQ n) big) ([],((0:Nat):Int),c,w):=rfl;rw[e];exact AUi h q (by omega) rfl λl' g w' a b d=>AUh j big 1 l' g w' (by have:=Mz;omega) (by omega) a b d
theorem AD8{s:List UInt8}(q:s.length<=1048576):∃x,AJQ s=some x/\x.1.AX.length<=5/\x.2.length<=1001:=by
 have hlim:lim=268435456:=rfl;unfold AJQ;have ⟨c,ec,e⟩:=AZo q;have ⟨r,er,Y,Z,cr⟩:=AUj e;have ⟨n,en,I⟩:=AZn q (a:=6) (b:=24) (by omega) (by omega);have ⟨b,eb,Q,G,H,cb⟩:=Ev cr n;have ⟨l,el,cl,j⟩:=AZl cb (cI (r:=r.1) (by omega) 0) (n:=b.1) (by rcases Int.lt_or_le 0 n with h|h;exact Int.le_trans (Int.le_of_lt (H h)) I;rw[G h];omega);have ⟨o,eo,co⟩:=nQ cl 30;have E:∀v c,EJ c->v.length<=1001->∃x,Xg r (v,c)=some x/\x.1.AX.length<=5/\x.2.length<=1001:=by
  intro v c e B;unfold Xg kL;dsimp only;have ⟨o,eo,co⟩:=nQ e 20;have ⟨z,ez,lz,_⟩:=nS co;rw[eo,AB,ez,AB,Bw,AV,AV];split
  .exact⟨_,rfl,lz,B⟩
  .exact⟨_,rfl,by dsimp only;omega,B⟩
 have lp:∀(k:Nat) (v:List Dv),0<k->61<k+v.length->v.length<=1001->∃x,BE (kM r o) k v=some x/\x.1.AX.length<=5/\x.2.length<=1001:=by
  intro k
  induction k with
  |zero=>exact λv g=>absurd g (by omega)|succ k L=>
   intro v g S X;rw[Di];unfold kM;rw[BW];split
   .rename_i h;rw[CE (by simp only[AI,AM];omega)];exact L _ (by omega) (by rw[AJ];simp only[AI,AM];omega) (by rw[AJ];simp only[AI,AM];omega)
   .rename_i h;unfold ACN;have ⟨y,ey,y1,_,O,cy⟩:=Ev co 2;have:=O (by omega);have J:w64 (60+y.1)=60+y.1:=A7 (by omega) (by omega);rw[AV,ey,AB,J,CE (by omega),AV];exact E _ _ cy (by rw[Ai];simp;omega)
 rw[ec,AB,er,AB,l9 (by omega),AB,en,AB,eb,AB,el,AB,eo,AB,Bw,AV];split
 .exact lp _ _ (by have:=Mz;omega) (by have:=Mz;omega) j
 .exact E _ _ co j
theorem mN{l:List Dv}(q:l.length<=60):∀(n i:Nat) (v:List Int) (w:CQ),l.length<n+i->i<=l.length->v.length=i->WSm i w->Pe w.Ar->∃x,BE (Xc l) n (v,(i:Int),w)=some x/\Pe x.1.Ar/\x.2.2=true
 |0,i,v,w,h,j,_,_,_=>absurd h (by omega)|n+1,i,v,w,h,j,y,B,hL=>by
  have hlim:lim=268435456:=rfl;have E:=λJ w' a b c d e=>mN q n (i+1) J w' a b c d e
  rw[Di];generalize BE (Xc l) n=L at *;unfold Xc ACK;dsimp only;rcases Aa i l.length with h|h
  .have ⟨r,G,I,H⟩:=B.AY6 (by omega) l[i];rw[CF h,BT,BQ h,AB,G,AB,AB,Cp,yt,CE (by simp only[AI,AM];omega),B1 h (by omega)];exact E _ _ (by omega) (by omega) (by simp[y]) I (AVy H hL)
  .have g:decide ((i:Int)<(l.length:Int))=false:=by rw[decide_eq_false_iff_not];omega
   rw[g,Bd,AV];exact⟨_,rfl,hL,rfl⟩
theorem AET(c:r.AX.length<=1048576){l:List Dv}(E:l.length<=1048576):∃x,AJO r l=some x/\(x.2.2=true->Pe x.1.Ar):=by
 unfold AJO kJ;simp only[l9 c,AB,BM,AV];by_cases a:(Ha r).2=true
 .rw[a,BT];by_cases h:(l.length:Int)>60
  .rw[decide_eq_true h,BT];exact⟨_,rfl,λg=>by cases g⟩
  .rw[decide_eq_false h,Bd];have j:Ds r=true:=by
    grind[Ds,Ha,Fk,Dx]
   have ⟨e,N⟩:=AbH c j;have q:(Ha r).1.Ar=e:=by unfold Ha;rw[N.nwN];rfl
   have ⟨x,y,B,_⟩:=mN (l:=l) (by omega) big 0 [] (Ha r).1 (by have:=Mz;omega) (by omega) rfl (cI c 0) (by rw[q];exact N.Aa3);exact⟨x,y,λ_=>B⟩
 .rw[DD]at a;rw[a,Bd,BT];exact⟨_,rfl,λg=>by cases g⟩
theorem y5{s:List UInt8}(_:okL okT s):Kx s=some true:=by
 unfold Kx;rw[ASM,AB,BW];split
 .rfl
 have ⟨p,ep,p1,p2⟩:=AD8 (s:=s) (by omega);have ⟨x,ex,Q⟩:=AET (r:=p.1) (by omega) (l:=p.2) (by omega);rw[ep,AB,ex,AB];cases J:x.2.2 with
 |false=>
  grind[nN,Bool.not_false,BT,AB,AC8,Ie,Fk,Ds,Dx]
 |true=>
  have hL:=Q J;have O:=hL.AVw;have ⟨n,k,b,q,R,H,hG⟩:=Q J;have hS:=hG.AUa;have hI:ACB x.1.Ar=some true:=by have ⟨z,E,G⟩:=AEU O;rw[G,<-E,hS]
  have ⟨g1,g2,g3⟩:=hG.AXJ;have hL2:Pe (LJ x.1.Ar).1:=⟨_,_,_,_,_,_,g1⟩;have ⟨Y,Z,e3,e4,S,X,a3,a4,a⟩:=Leg.ASY hL2 g2;have im:∀e f p,Pe e->I4 e p=some (f,true)->AB4 e p=some (f,true):=by
   intro e f p c h;have ⟨z,E,G,_⟩:=U0 c.AVw p;rw[G,<-E,h]
  have g:=a Y (by simp);have y:=a Z (by simp);have f3:=a e3 (by simp);have I:=a e4 (by simp);have step:∀(i j:Int) (m:Nat) (e f:A6),j=i+1->0<=i->i<4->Pe e->Pe f->f.Av=e.Av->I4 e i=some (f,true)->BE (GC) (m+1) (i,e)=BE (GC) m (j,f):=by
   rintro i _ m e f rfl h0 h4 c B hh h;rw[Di];generalize BE (GC) m=L;unfold GC I2;dsimp only;have ⟨_,_,_,_,_,_,hg⟩:=B;rw[decide_eq_true h4,BT,im _ _ _ c h,AB,BM,BT,hg.AUa,AB,BM,BT,hh,mq c.AVw.D9 (EV c.okE).1,AB,AV,BM,BT,A7 (by omega) (by omega)]
  have ⟨n,hn⟩:=OH 5 (by omega);unfold Ky;rw[Bq,Bd,hI,AB,BM,BT,hS,AB,AV,BM,BT,ALP O,AB,hn];rw[step 0 1 _ _ _ rfl (by omega) (by omega) hL2 g.1 g.2.1 S,step 1 2 _ _ _ rfl (by omega) (by omega) g.1 y.1 (y.2.1.trans g.2.1.symm) X,step 2 3 _ _ _ rfl (by omega) (by omega) y.1 f3.1 (f3.2.1.trans y.2.1.symm) a3,
   step 3 4 _ _ _ rfl (by omega) (by omega) f3.1 I.1 (I.2.1.trans f3.2.1.symm) a4,Di]
  unfold GC PC;dsimp only;rw[show decide ((4:Int)<4)=false from rfl,Bd,AV]
end Lv.P
