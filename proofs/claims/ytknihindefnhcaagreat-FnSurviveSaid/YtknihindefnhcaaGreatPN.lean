/- Plain laws about what the program computes. -/
import Derived.Test.YtknihindefnhcaaGreatPF
set_option linter.all false
noncomputable section
open Bool renaming and_eq_true->AD,and_true->Ce,false_eq_true->BP,not_eq_false->FF,not_false->Ei,not_true->B5,true_and->Co,true_eq_false->Dq
open Int renaming eq_ofNat_of_zero_le->AX,le_refl->PZ,le_trans->Ob,toNat_natCast->Ah
open List renaming all_eq_true->B2,all_nil->Oc,append_assoc->BF,append_inj->EM,append_nil->CO,cons_append->A8,cons_prefix_cons->C7,contains_iff_mem->DT,drop_append_of_le_length->E6,drop_eq_nil_of_le->A9,drop_length->Cx,drop_take->Mq,drop_zero->CX,flatten_append->D6,getD_eq_getElem?_getD->BB,getD_nil->Nm,getElem?_eq_getElem->AU,getElem?_set_ne->HB,getElem_mem->Aw,length_append->AH,length_cons->AK,length_drop->BD,length_eq_zero_iff->GD,length_filterMap_le->B8,length_map->Af,length_nil->AT,length_pos_iff->Jz,length_set->An,length_singleton->Cf,length_take->Ag,mem_append->Br,mem_cons->Ae,mem_cons_of_mem->Am,mem_cons_self->BQ,mem_iff_getElem->DF,mem_or_eq_of_mem_set->Cb,mem_range->Mr,nil_append->Az,nil_prefix->EN,not_mem_nil->D7,prefix_cons_inj->HC,prefix_refl->Ik,set_set->Ft,take_append_drop->CL,take_append_of_le_length->Gz,take_left'->Ci,take_length->Cd,take_of_length_le->BH,take_prefix->Dm,take_succ_cons->Cs,take_take->Ms
open List.cons renaming injEq->B3
open Nat renaming le_refl->Aj,le_trans->Ax,lt_or_ge->AV,sub_zero->Fu,testBit_lt_two_pow->Iz,xor_assoc->FW,xor_mod_two_pow->J4,xor_self->Ks,xor_zero->IY,zero_add->A1,zero_xor->Of
open Option renaming getD_some->DN
open Option.some renaming injEq->AE
namespace Lv.P
open Lv Go
variable{H g h:AF}{x y:AF×Int×Bool}{c:AP}{r:Ad}{e:Ai}{s:BY}{a:Bp}{w:CJ}{b id k m n p q:Int}{R:List Bo}{T l t:List UInt8}{B N i v:Nat}{f:Type}{d:UInt8}
theorem TK{l:List AR}(a:l.length<=1048576)(id:Int):sC l id=some (atF (λx=>x.Id==id) l 0):=by unfold sC AO8;grind[Su,AB,ACN,AO7,CB,BT,HH,CI,AW]
theorem H7(a:Bt h)(id:Int):Oh h id=some (Gt h id):=by unfold Oh;rw[TK a.Cc,AB];rfl
theorem JE{l:List Int}(a:l.length<=1048576)(k:Int):ZC l k=some (Sj l k):=by grind[lim,ZC,FX,Sj,YJ,AB,RI,Be,AW,D2]
theorem AFE{c:C}{l:List c.D}{k:Nat}(a:k<l.length):ACr c l (k:Int) ((k+1:Nat):Int)=some (l.take k++l.drop (k+1)):=by grind[ACr]
theorem ASw{c:C}{l:List c.D}{k:Nat}(a:k<=l.length)(e:l.length<=1048576)(x:c.D):pq c l (k:Int) [x]=some (l.take k++x::l.drop k):=by grind[pq,lim]
theorem AaI{l:List AR}{k:Nat}(a:k<l.length):AX0 l (k:Int) ((k:Int)+1)=some (l.take k++l.drop (k+1)):=AFE (c:=.st 2) a
theorem AYC{l:List AR}{k:Nat}(a:k<=l.length)(e:l.length<=1048576)(x:AR):AXx l (k:Int) [x]=some (l.take k++x::l.drop k):=ASw (c:=.st 2) a e x
theorem AaG{l:List Ar}{k:Nat}(a:k<l.length):AXy l (k:Int) ((k:Int)+1)=some (l.take k++l.drop (k+1)):=AFE (c:=.st 4) a
theorem AaX{l:List Ar}{k:Nat}(a:k<=l.length)(e:l.length<=1048576)(x:Ar):AO0 l (k:Int) [x]=some (l.take k++x::l.drop k):=ASw (c:=.st 4) a e x
theorem AaH{l:List Bf}{k:Nat}(a:k<l.length):AXz l (k:Int) ((k:Int)+1)=some (l.take k++l.drop (k+1)):=AFE (c:=.st 5) a
theorem RL{l:List AR}(h:l.length<=1048576)(id:Int):Y9 l id=some (l.eraseP (λx=>x.Id==id)):=by unfold Y9 Lb;rw[DX,TK h,AB,BV];rcases KT (λx:AR=>x.Id==id) l 0 with ⟨a,c,e⟩|⟨k,g,a,c,e,_⟩;rw[a,ifN,AW,c];rw[a,A1,ifP,A6];rw[AaI g];erw [AB];rw[AW,c]
theorem W7{l:List Ar}(a:l.length<=1048576):Ye l=some l:=by unfold Ye;rw[DX]
theorem Wh{l:List Ar}(h:l.length<=1048576)(id:Int):ACP l id=some (l.eraseP (λx=>x.Id==id),l.any λx=>x.Id==id):=by unfold ACP;rw[W7 h,AB,Zf (by omega),AB,BV];rcases KT (λx:Ar=>x.Id==id) l 0 with ⟨a,c,e⟩|⟨k,g,a,c,e,_⟩;grind;rw[a,A1,ifN,A6];rw[AaG g];erw [AB];rw[c,e]
theorem RN{w:A2}(B:DQ w){p:Bf}(E:TW p=true):sF w p=some (WX w p):=by
 have c:=(O2 E).1.1;unfold sF;rw[Vm B,AB,JG B,AB,XQ,E,AB,BW,Be,AW,AW];unfold WX lC be;by_cases j:Iu w=true;rw[AY j,AY ⟨j,c⟩,B5,CI];have ⟨m,H,y⟩:=fT (n:=p.At) c;have a:m<w.Av.length:=by have:=(ET.1 j).1;omega
 have I:w.Av[m].length<=1048576:=Ax (Ly a) B.2;rw[y,Ah,BB,AU a,DN];simp only[BT a,AB];have q:AJQ w.Av[m] p=some (atF (isP p) w.Av[m] 0):=by grind[AJQ,Su,ACQ,isP,CB,BT,AB,HH,CI,AW]
 rw[q,AB,BV];rcases KT (isP p) w.Av[m] 0 with ⟨e,g,h⟩|⟨k,G,e,g,h,_⟩;rw[e,ifP,g,h,List.set_getElem_self];rw[e,A1,ifN,A6];rw[AaH G];erw [AB];rw[D2 ⟨rfl,⟨by omega,by omega⟩,trivial⟩,g,h];grind[CB]
theorem SK{l l':BO}{a c d:Int}(h:Fi l=true->0<=n->n<=60->l'=⟨l.Total,w64 (l.Et+w64 (a*n)),w64 (l.FU+w64 (b*n)),w64 (l.Ge+w64 (c*n)),w64 (l.Gm+w64 (d*n))⟩) :
 (if Fi l=true then if inB n 0 60=true then if Fi l'=true then some (l',true) else some (l,false) else some (l,false) else some (l,false))=some (l8 l n a b c d):=by unfold l8;grind[inB]
theorem PW{x:Int}(h:-1000<=x/\x<=1000):w64 x=x:=A6 (by omega) (by omega)
theorem pn(l:BO)(n:Int):AJO l n=some (l8 l n 0 0 0 1):=by rw[<-SK (l':={l with Gm:=w64 (l.Gm+n)}) λh a c=>by have:=Gj.1 h;congr 1<;>grind[PW]];unfold AJO APB lA APA;grind[Fo,Db,AB,AW,Be]
theorem OT(l:BO)(n:Int):rr l n=some (l8 l n 0 0 0 (-1)):=by rw[<-SK (l':={l with Gm:=w64 (l.Gm-n)}) λh a c=>by have:=Gj.1 h;congr 1<;>grind[PW]];unfold rr AO4 km AO3;grind[Fo,Db,AB,AW,Be]
theorem nA(l:BO)(n:Int):AJg l n=some (l8 l n (-1) 1 0 0):=by rw[<-SK (l':={l with Et:=w64 (l.Et-n),FU:=w64 (l.FU+n)}) λh a c=>by have:=Gj.1 h;congr 1<;>grind[PW]];unfold AJg APJ lR API;grind[Fo,Db,AB,AW,Be]
theorem U6(l:BO)(n:Int):ACK l n=some (l8 l n 1 (-1) 0 0):=by rw[<-SK (l':={l with Et:=w64 (l.Et+n),FU:=w64 (l.FU-n)}) λh a c=>by have:=Gj.1 h;congr 1<;>grind[PW]];unfold ACK APD lD APC;grind[Fo,Db,AB,AW,Be]
theorem nB(l:BO)(n:Int):AJW l n=some (l8 l n 0 (-1) 1 0):=by rw[<-SK (l':={l with FU:=w64 (l.FU-n),Ge:=w64 (l.Ge+n)}) λh a c=>by have:=Gj.1 h;congr 1<;>grind[PW]];unfold AJW APF lL APE;grind[Fo,Db,AB,AW,Be]
theorem U7(l:BO)(n:Int):ACL l n=some (l8 l n 1 0 (-1) 0):=by rw[<-SK (l':={l with Et:=w64 (l.Et+n),Ge:=w64 (l.Ge-n)}) λh a c=>by have:=Gj.1 h;congr 1<;>grind[PW]];unfold ACL AO6 kq AO5;grind[Fo,Db,AB,AW,Be]
theorem ATq{f:Type}{lt:f->f->Bool}{q:f->Bool}(a:f):∀{l:List f} (s:Nat),(∀x∈l,q x=!(lt x a))->(atF q l s = -1/\put lt a l=l++[a])\/∃k,k<l.length/\atF q l s=((s+k:Nat):Int)/\put lt a l=l.take k++a::l.drop k
 | [],s,_=>.inl ⟨rfl,rfl⟩|z::l,s,h=>by
  have E:=h z (BQ ..);cases e:lt z a with
  |true=>
   have j:q z=false:=by rw[E,e];rfl
   rcases ATq a (l:=l) (s+1) (λx B=>h x (Am _ B)) with ⟨c,g⟩|⟨k,y,c,g⟩;exact .inl ⟨by simp[atF,j,c],by simp[put,e,g]⟩;exact .inr ⟨k+1,by simpa using y,by simp only[atF,j,BP,if_false,c];omega,by simp[put,e,g]⟩
  |false=>grind[atF,put]
theorem RM{l:List AR}(g:l.length<=1048576)(p:AR):sD l p=some (Mm l p):=by
 unfold sD kv Mm be;rw[DX,TK g,AB,BV];rcases KT (λx:AR=>x.Id==p.Id) l 0 with ⟨j,_,y⟩|⟨k,B,j,_⟩;rw[j,ifN,ifN];have e:AJN l p=some (atF (λx:AR=>decide (x.Id>p.Id)) l 0):=by grind[AJN,Su,ACO,AO9,CB,BT,AB,HH,CI,AW]
 rw[e,AB,BV,AW,AW];have h:=List.any_eq_false.1 y;rcases ATq (lt:=MT) (q:=λx:AR=>decide (x.Id>p.Id)) p (l:=l) 0 (λx E=>by have:=h x E;simp only[beq_iff_eq]at this;unfold MT;rw[Bool.eq_iff_iff];simp;omega) with ⟨a,c⟩|⟨k,B,a,c⟩;have:=AYC (l:=l) (k:=l.length) (Aj _) g p;rw[a,ifP,this];erw [AB];rw[c];simp;have:=AYC (l:=l) (k:=k) (by omega) g p;rw[a,A1,ifN,this];erw [AB];rw[c];grind[BT,AB]
theorem Wi{l:List Ar}(c:l.length<=1048575)(e:Ar):sE l e=some (if MY l=true/\MY (put ltE e l)=true then (put ltE e l,true) else (l,false)):=by
 unfold sE;rw[W7 (by omega),AB];have a:∀i:Nat,i<=l.length->kx l e l i=some (if MY l=true/\MY (l.take i++e::l.drop i)=true then (l.take i++e::l.drop i,true) else (l,false)):=by intro i hi;have:=AaX (l:=l) (k:=i) hi (by omega) e;unfold kx ky;rw[W7 (by omega)];rw[AB,this];erw [AB];rw[AB,this];erw [AB];grind[Cy,AB,Zg,AW,Be]
 refine VN (lt:=ltE) (λm=>some (if MY l=true/\MY m=true then (m,true) else (l,false))) (by omega) ?_ ?_;grind[kz,ZB,CB,BT,AB,U2,AW];grind[kz,ZB,CI,AW]
theorem ADL(h:r.AZ.length<2 ^ 62)(p:AR)(now:Int):AJY r p now=some (FN r p now):=by
 unfold AJY Nv FN;rw[Oy h,AB];simp only[AW,BW,Be,bne_iff_ne,ne_eq,beq_iff_eq];by_cases a:EE r p now=true;have g:=Fc a;have j:=CU g.1;have ew:w64 (p.De+1)=p.De+1:=A6 (by omega) (by omega);rw[ew];by_cases c:p.State=2;by_cases e:p.De+1=r.Cr;have:¬p.De+1<r.Cr:=by omega
 simp[a,c,e];rfl;grind;simp[a,c];rfl;simp[a];rfl
theorem AHs{q:Bo}(h:LD q=true):(q.Kind=1->0<=q.Ab /\ -1<=q.Bs)/\(q.Kind=3->0<=q.Ab)/\(q.Kind=7->0<=q.Id):=by grind[LD,Up,B6]
theorem AGj(hR:RH h){q:Bo}(B:0<=q.Ab)(E:-1<=q.Bs) :
 (bd (Og q.Ab (↑h.AI.length:Int)) λy=>
  br (!y)
   (jn (Nw h q) true)
   (bd (C3 q.Bs (-1) (w64 ((↑h.AI.length:Int)-1))) λa=>
   br (!a)
    (jn (Nw h q) true)
    (jn (Nw h q) (q.Bs==q.Ab))))=some (Zm h q):=by
 have e:=hR.fit;have g:=hR.len;have I:=e.Cc;have ew:w64 ((h.AI.length:Int)-1)=(h.AI.length:Int)-1:=A6 (by omega) (by omega);have G:∀b,(q.Bs<h.AI.length\/b=true)->Nw h q b=some (if b=true then 4
  else if inB q.BL 1 h.AQ.BL=false then 5
  else if h.AQ.Cj<=q.DH then 6
  else if inB q.Id 1 999=false then 7
  else if 0<=Gt h q.Id then 8
  else if h.AQ.Room<=Ds h.AG q.Ab then 9
  else if 0<=q.Bs/\MS h q.Bs<q.BL then 10
  else if 1000000<h.A3 then 11 else 0):=by
  intro b j;unfold Nw kr G2;cases b with
  |true=>rfl|false=>
   have hF:q.Bs<h.AI.length:=by simpa using j
   have H:0<=q.Bs->Yw h q.Bs=some (MS h q.Bs):=λc=>Ng c hF;simp only[CI,Db,AB,BW,Be,BP,if_false,ge_iff_le,gt_iff_lt,decide_eq_true_eq,H7 e,JL (show h.AG.length<2 ^ 58 by omega),AW,bne_iff_ne,ne_eq];by_cases c:0<=q.Bs;grind[AB];grind
 grind[Zk,AB,Db,Be,AW,Zm,B6]
theorem eY(j:Bt h)(id:Int) :
 (bd (Oh h id) λa=>
 br (decide (a<0))
  (some 7)
  (bd (at? h.AG a) λc=>
  br (c.State != 2)
   (some 13)
   (bd (at? h.AG a) λe=>
   bd (kK e h.Now) λg=>
   br g
    (some 14)
    (jn G2 ()))))=some (MF h id):=by
 unfold MF;rw[H7 j,AB,BV];grind[ax,TY,AB,AEU,Be,G2,AW]
theorem H8(G:Bt h)(q:Bo):Ug h q=some (verdict h q):=by
 unfold Ug verdict;rw[GR G,AB,BW,Be];by_cases g:C0 h=true;have hR:=GH.1 g;have X:=hR.len;have Y:=hR.now;have ew:w64 ((h.AI.length:Int)-1)=(h.AI.length:Int)-1:=A6 (by omega) (by omega);rw[AY g,AY g];unfold Is;rw[Db,AB,BW,Be];cases inB q.Kind 1 7;rfl;simp only[if_true,Dq,if_false];rw[ADM,AB,BW,Be];cases ha:LD q;rfl;have ⟨l1,l3,l7⟩:=AHs ha;have j:G2 ()=some 0:=rfl;simp only[if_true,Dq,if_false];by_cases a:q.Kind=1;rw[AY a,Be,AY (by simpa using a)];exact AGj hR (l1 a).1 (l1 a).2;rw[Aa a,Be,Aa (by simpa using a)];by_cases H:q.Kind=2;rw[AY H,Be,AY (by simpa using H),H7 G,AB,BV,AW,j];split<;>rfl;rw[Aa H,Be,Aa (by simpa using H)];by_cases y:q.Kind=3;have hc:=l3 y;rw[AY y,Be,AY (by simpa using y),Zk,AB,ew,Db,AB,BW,BW,Be,Be,AW,j];by_cases Q:(h.AI.length:Int)<=q.Ab;rw[Aa (by rw[B6];omega),AY Q];rw[AY (by rw[B6];omega),Aa Q,Ng hc (by omega),AB,BV];cases inB q.BL 1 60<;>simp<;>split<;>rfl;rw[Aa y,Be,Aa (by simpa using y)];unfold ku;by_cases Z:q.Kind=4\/q.Kind=5;rw[AY Z];have:(q.Kind==4)=true\/(q.Kind==4)=false/\(q.Kind==5)=true:=by grind
 rcases this with e|⟨e,J⟩;rw[e,CB,AW,CB];exact eY G q.Id;rw[e,J,brJ,CB];exact eY G q.Id;have e4:(q.Kind==4)=false:=by grind
 have J:(q.Kind==5)=false:=by grind
 rw[Aa Z,e4,J,brJ,CI,Be];by_cases I:q.Kind=6;rw[AY (by simpa using I),AY I,Be,AW,j];by_cases c:1000000<=h.Now;rw[AY (by simp;omega),AY c];rw[Aa (by simp;omega),Aa c];rw[Aa (by simpa using I),Aa I,Be];by_cases B:q.Kind=7;rw[AY (by simpa using B),AY B,BV];by_cases E:h.AQ.Da<=q.Id;rw[AY E,AY E];rw[Aa E,Aa E];have ⟨n,hn⟩:=AX (l7 B);have O:n<h.BI.length:=by have:=hR.P7;omega
 have L:=B2.1 hR.Gs _ (Aw O);rw[B6]at L;rw[hn,BT O,AB,Ah,BB,AU O,DN];unfold Rs;simp only[Be,AW,beq_iff_eq,j];by_cases S:h.BI[n] = -1;have:h.BI[n]<0:=by omega
 by_cases h3:h.BM.length=0<;>simp[S,h3,this];have:¬h.BI[n]<0:=by omega
 simp[S,this];rw[Aa (by simpa using B),Aa B,AW,j];rw[Aa g,Aa g]
theorem YD{l:List f}(a:0<=k)(c:k<l.length)(v:f):at? (l.set k.toNat v) k=some v:=by grind[BT]
theorem RH.AXP(hR:RH h)(c:0<=k)(e:k<h.AI.length):MY (cbn h k).Row=true/\(cbn h k).Row.length<=10:=by obtain⟨n,rfl⟩:=AX c;have a:=hR.cb (i:=n) (by omega);have q:=CU hR.rules;have j:=a.room;have g:=Tb h.AQ h.AG n h.Now;rw[a.row];exact⟨ADw hR.JJ (by omega),by omega⟩
theorem RH.ALW(hR:RH h)(a:0<=k)(c:k<h.AI.length):E3 (cbn h k):=hR.fit.EX _ (W5 a c)
theorem AHF(hR:RH h)(c:0<=Gt h id)(q:(par h id).State=2):TW ⟨(par h id).DK,id⟩=true/\(par h id).Id=id:=by have a:=hR.one c;have e:=Fc a.okp;have j:=CU hR.rules;have g:=a.pid;grind[TW,B6]
theorem ALu(c:Bt h)(id cb fr sz tr:Int):AJP h id cb fr sz tr=some (eu h id cb fr sz tr):=by
 unfold AJP lB eu be;rw[H2 c,AB,H8 c,AB];simp only[Be,bne_iff_ne,ne_eq];by_cases a:verdict h ⟨1,id,cb,fr,sz,tr⟩=0;rw[Aa (not_not_intro a),Aa (not_not_intro a)];have ⟨hJ,_,_,_⟩:=s7 a;have hR:=HR a;have g:=(AHs (Sl a).2).1 rfl;dsimp only at g;have ⟨H,q,y,G⟩:=ak a;have I:=c.EI;have j:=hR.AXP q y;have ec:at? h.AI cb=some (cbn h cb):=Gq q y;have hJl:(Ld h id cb fr sz tr).AI.length=h.AI.length:=by unfold Ld;split<;>simp[Ey,KQ,Hv,C1]
 have hJr:=hJ.AXP (k:=cb) q (by rw[hJl];exact y);have e:(cbn (Ld h id cb fr sz tr) cb).Row=put ltE (Fh h.AQ (Iw h id cb fr sz tr) h.Now).1 (cbn h cb).Row:=by grind[Ld,AAu,cbn,Hv,Iw,KQ,C1]
 rw[e]at hJr;rw[RM c.Cc,AB,Ox (by omega),AB];simp only[ec,AB];have E:=Wi (l:=(cbn h cb).Row) (by omega) (Fh h.AQ (Iw h id cb fr sz tr) h.Now).1;rw[AY ⟨j.1,hJr.1⟩]at E;show bd (sE (cbn h cb).Row (Fh h.AQ (Iw h id cb fr sz tr) h.Now).1) _=_;rw[E,AB];unfold Ld;dsimp only;by_cases B:0<=fr;have hX:at? (h.AI.set cb.toNat ⟨(cbn h cb).AZ,put ltE (Fh h.AQ (Iw h id cb fr sz tr) h.Now).1 (cbn h cb).Row,(cbn h cb).B9⟩) fr=some (cbn (Hv {h with A3:=w64 (h.A3+1),AG:=Mm h.AG (Iw h id cb fr sz tr)} (Iw h id cb fr sz tr)) fr):=
  Gq (h:=Hv {h with A3:=w64 (h.A3+1),AG:=Mm h.AG (Iw h id cb fr sz tr)} (Iw h id cb fr sz tr)) B (by simp only[Hv,C1,An];exact G)
 rw[ifP,AY B,hX];simp only[AB,pn,AW,JE c.todo];rfl;rw[ifN,Aa B];simp only[AB,AW,JE c.todo];rfl;rw[AY a,AY a]
theorem AKQ{p:AR}(c:p.Id=id)(e:-1<=p.Bs)(h:p.Bs<g.AI.length)(j:g.AG.length<=1048576) :
 (if p.Bs = -1 then some (QT g (g.AG.eraseP λx=>x.Id==id)) else some (QT (C1 g p.Bs ⟨(l8 (cbn g p.Bs).AZ p.BL 0 0 0 (-1)).1,(cbn g p.Bs).Row,(cbn g p.Bs).B9⟩) (g.AG.eraseP λx=>x.Id==id)))=some (gone g p):=by unfold gone;rw[c];by_cases a:0<=p.Bs;rw[ifN,AY a];rfl;rw[ifP,Aa a];rfl
theorem ADI(e:Bt h)(id:Int):AJL h id=some (Qe h id):=by
 unfold AJL Qe;rw[H2 e,AB,H8 e,AB];simp only[Be,bne_iff_ne,ne_eq];by_cases E:verdict h ⟨2,id,0,0,0,0⟩=0;rw[Aa (not_not_intro E),Aa (not_not_intro E)];have ⟨Q,p0⟩:=Vd E;have hR:=GH.1 Q;have I:=hR.one p0;have c:=I.size;have J:=hR.len;have X:=Fc I.okp;have H:=I.pid;have y:∀g:AF,g.AI.length=h.AI.length->g.AG=h.AG->ZA id (par h id) g=some (gone g (par h id),0):=by intro g S q;have a:=AKQ (g:=g) (p:=par h id) H (by omega) (by omega) (by rw[q];exact e.Cc);unfold ZA ko be;have B:Y9 g.AG id=some (g.AG.eraseP λx=>x.Id==id):=RL (by rw[q];exact e.Cc) id;simp only[Be,bne_iff_ne,ne_eq,AW];by_cases G:(par h id).Bs = -1;rw[Aa (not_not_intro G),B,AB];rw[AY G]at a;rw[<-Option.some.inj a];rfl;have ef:at? g.AI (par h id).Bs=some (cbn g (par h id).Bs):=Gq (by omega) (by omega);rw[AY G];simp only[ef,AB,OT,B];rw[Aa G]at a;rw[<-Option.some.inj a];rfl
 have ec:at? h.AI (par h id).Ab=some (cbn h (par h id).Ab):=Gq c.2.1.1 (by omega);have j:=hR.ALW c.2.1.1 (by omega);simp only[H7 e,AB,Sv p0,FP,ec,beq_iff_eq,AW];unfold cancelled;by_cases s1:(par h id).State=1;rw[AY s1,ifN,Wh j.1,AB];exact y (Va h (par h id).Ab id) (by simp[Va,C1]) rfl;have O:(par h id).State=2:=by omega
 have L:=AHF hR p0 O;rw[Aa s1,AY O,RN j.2 L.1,AB];simp only[YD c.2.1.1 (show (par h id).Ab<(h.AI.length:Int) by omega),AB,U6,JE e.todo,Ft];have:=y (Ey (dropped h (par h id)) (Sj (dropped h (par h id)).BM (par h id).Ab)) (by simp[Ey,dropped,C1]) rfl;rw[<-this];unfold dropped;rw[L.2];rfl;rw[AY E,AY E]
theorem mw(c:Bt h)(k n:Int):AJM h k n=some (eO h k n):=by unfold AJM eO be;rw[H2 c,AB,H8 c,AB];simp only[Be,bne_iff_ne,ne_eq];by_cases a:verdict h ⟨3,0,k,0,n,0⟩=0;rw[Aa (not_not_intro a),Aa (not_not_intro a)];have ⟨j,e,g⟩:=To a;have ec:at? h.AI k=some (cbn h k):=Gq e g;simp only[ec,AB,U7,JE c.todo];rfl;rw[AY a,AY a]
theorem AOd{X:AF}{p:AR}(a:0<=p.Bs)(c:p.Bs<X.AI.length):cbn (gone X p) p.Bs=⟨(l8 (cbn X p.Bs).AZ p.BL 0 0 0 (-1)).1,(cbn X p.Bs).Row,(cbn X p.Bs).B9⟩:=by grind[gone,Je]
theorem ADF(g:Bt h)(id:Int):AJX h id=some (QY h id):=by
 unfold AJX QY Nu be;rw[H2 g,AB,H8 g,AB];simp only[Be,bne_iff_ne,ne_eq];by_cases e:verdict h ⟨4,id,0,0,0,0⟩=0;rw[Aa (not_not_intro e),Aa (not_not_intro e)];have ⟨E,p0⟩:=Vc e;have hR:=GH.1 E;have G:=hR.one p0;have c:=G.size;have B:=hR.len;have H:=(Vf ((HP e).2.2.2.1 (.inl rfl))).2;have j:=AHF hR p0 H;have ec:at? h.AI (par h id).Ab=some (cbn h (par h id).Ab):=Gq c.2.1.1 (by omega);have q:=hR.ALW c.2.1.1 (by omega);have y:Y9 h.AG id=some (h.AG.eraseP λx=>x.Id==id):=RL g.Cc id;simp only[H7 g,AB,Sv p0,FP,ec,nB,YD c.2.1.1 (show (par h id).Ab<(h.AI.length:Int) by omega),RN q.2 j.1,y,Ft,AW];have hXl:(RR h (par h id)).AI.length=h.AI.length:=by simp[RR,C1]
 have hX:(RR h (par h id)).AI=h.AI.set (par h id).Ab.toNat ⟨(l8 (cbn h (par h id).Ab).AZ (par h id).BL 0 (-1) 1 0).1,(cbn h (par h id).Ab).Row,(WX (cbn h (par h id).Ab).B9 ⟨(par h id).DK,id⟩).1⟩:=by unfold RR C1;rw[j.2]
 rw[<-hX];unfold accepted;by_cases a:0<=(par h id).Bs;have ef:at? (RR h (par h id)).AI (par h id).Bs=some (cbn (RR h (par h id)) (par h id).Bs):=Gq a (by omega);rw[ifP,AY a,ef];simp only[AB,OT,YD a (show (par h id).Bs<((RR h (par h id)).AI.length:Int) by omega),U7,JE g.todo,Ft];unfold Ur;rw[AOd a (by omega)];unfold gone C1;simp only[AY a,Ft,j.2];rfl;rw[ifN,Aa a];unfold gone;simp only[Aa a,j.2];rfl;rw[AY e,AY e]
theorem Wl(hR:RH h)(p0:0<=Gt h id)(Z:(par h id).State=2):ACU h id=some (Jg h (par h id)):=by
 have y:=hR.fit;have X:=hR.one p0;have E:=X.size;have S:=hR.len;have hs:=y.EI;have H:=AHF hR p0 Z;have c:=E.2.1.1;have a:(par h id).Ab<(h.AI.length:Int):=by omega
 have ec:at? h.AI (par h id).Ab=some (cbn h (par h id).Ab):=Gq c a;have J:=hR.ALW c a;have O:Y9 h.AG id=some (h.AG.eraseP λx=>x.Id==id):=RL y.Cc id;unfold ACU Gg be;simp only[H7 y,AB,Sv p0,FP,ec,U6,YD c a,RN J.2 H.1,ADL (show h.AQ.AZ.length<2 ^ 62 by omega),Ft,Be,AW,O];have hXl:(dropped h (par h id)).AI.length=h.AI.length:=by simp[dropped,C1]
 have hX:(dropped h (par h id)).AI=h.AI.set (par h id).Ab.toNat ⟨(l8 (cbn h (par h id).Ab).AZ (par h id).BL 1 (-1) 0 0).1,(cbn h (par h id).Ab).Row,(WX (cbn h (par h id).Ab).B9 ⟨(par h id).DK,id⟩).1⟩:=by unfold dropped C1;rw[H.2]
 have hF:=ZU hR X Z;by_cases q:(FN h.AQ (par h id) h.Now).2=true;have j:=eM q;have e:Jg h (par h id)=Hv (QT (dropped h (par h id)) (Mm h.AG (FN h.AQ (par h id) h.Now).1)) (FN h.AQ (par h id) h.Now).1:=by unfold Jg;rw[AY q]
 have hrowX:cbn (dropped h (par h id)) (par h id).Ab=⟨(l8 (cbn h (par h id).Ab).AZ (par h id).BL 1 (-1) 0 0).1,(cbn h (par h id).Ab).Row,(WX (cbn h (par h id).Ab).B9 ⟨(par h id).DK,id⟩).1⟩:=by unfold dropped;rw[Je c a c,AY rfl,H.2]
 have Q:=hR.AXP c a;have B:=hF.AXP c (by rw[(TB h _).EH];exact a);have e2:(cbn (Jg h (par h id)) (par h id).Ab).Row=put ltE (Fh h.AQ (FN h.AQ (par h id) h.Now).1 h.Now).1 (cbn h (par h id).Ab).Row:=by rw[e];unfold Hv;rw[j,Je c (by show (par h id).Ab<((dropped h (par h id)).AI.length:Int);omega) c,AY rfl];show put ltE _ (cbn (dropped h (par h id)) (par h id).Ab).Row=_;rw[hrowX];rfl
 rw[e2]at B;have Y:=Wi (l:=(cbn h (par h id).Ab).Row) (by omega) (Fh h.AQ (FN h.AQ (par h id) h.Now).1 h.Now).1;rw[AY ⟨Q.1,B.1⟩]at Y;simp only[q,if_true,RM y.Cc,AB,Ox (show h.AQ.AZ.length<2 ^ 62 by omega),Y];rw[e];unfold Hv;rw[j];grind[C1,QT,dropped,par,cbn,put,ltE,List.set_set];have I:(FN h.AQ (par h id) h.Now).2=false:=by simpa using q
 have e:Jg h (par h id)=gone (dropped h (par h id)) (par h id):=by unfold Jg;rw[Aa q]
 have L:=AKQ (g:=dropped h (par h id)) (p:=par h id) H.2 E.2.2.1.1 (by omega) y.Cc;rw[e,<-L];simp only[I,BP,if_false,<-hX,bne_iff_ne,ne_eq];by_cases G:(par h id).Bs = -1;rw[Aa (not_not_intro G),AY G];rfl;have ef:at? (dropped h (par h id)).AI (par h id).Bs=some (cbn (dropped h (par h id)) (par h id).Bs):=Gq (by omega) (by omega);rw[AY G,Aa G,ef];simp only[AB,OT];rfl
theorem yL(c:Bt h)(id:Int):AJZ h id=some (N3 h id):=by unfold AJZ N3;rw[H2 c,AB,H8 c,AB];simp only[Be,bne_iff_ne,ne_eq];by_cases a:verdict h ⟨5,id,0,0,0,0⟩=0;rw[Aa (not_not_intro a),Aa (not_not_intro a)];have ⟨g,p0⟩:=T2 a;have hR:=GH.1 g;have e:=(Vf ((HP a).2.2.2.1 (.inr rfl))).2;have hF:=ZU hR (hR.one p0) e;simp only[H7 c,AB,Sv p0,Wl hR p0 e,JE hF.fit.todo];rfl;rw[AY a,AY a]
theorem AN3{n:Nat}{x:AF}(H:Sm n h)(J:x.AI.length=h.AI.length)(q:∀c:Int,Ds h.AG c<=19)(Q:n+h.AI.length<=1048576):BK (ZE x) big (0,h)=some (Mh h.AI.length 0 h,0):=by
 generalize a:h.AI.length=len at *;refine(Dl (F:=ZE x) (n:=len) (λi (v:AF)=>((i:Int),v)) (λi v=>Sm (n+i) v/\v.AI.length=len/\v.AG=h.AG) (λi v=>some (Mh (len-i) i v,0)) (by omega) ?_ (v:=h) ⟨H,a,rfl⟩).trans (by rw[Fu]);intro L i v ⟨G,E,g⟩ hi O;have y:=G.fit (by omega);unfold ZE be;dsimp only;rw[J];rcases AV i len with j|j;have S:=y.EI;have I:=y.Cc;rw[bnT j,TJ (by omega) I (by rw[g];exact q _),AB,Gq (by omega) (by omega),AB,AB,JL (by omega),AB];have e:Mh (len-i) i v=Mh (len-(i+1)) (i+1) (M9 v i):=by rw[show len-i=(len-(i+1))+1 by omega];rfl
 rw[e];have B:=O (M9 v i) ⟨by have:=pF G i;rw[Nat.add_assoc]at this;exact this,by rw[uK];exact E,by rw[AEe.JJ];exact g⟩ j;rw[<-B];unfold Rv M9;simp only[BV,gt_iff_lt,AW,Bh j (show len<2 ^ 63 by omega),Ah,JE y.todo,AB];split<;>rfl;have:i=len:=by omega
 subst this;rw[bnJ,Nat.sub_self];rfl
theorem ALz(g:Bt h):AJa h=some (fS h):=by unfold AJa fS;rw[H2 g,AB,H8 g,AB];simp only[Be,bne_iff_ne,ne_eq];by_cases e:verdict h ⟨6,0,0,0,0,0⟩=0;have hR:=HR e;have a:=hR.sm;have j:=hR.len;have y:=CU hR.rules;have q:Sm 1000 {h with Now:=w64 (h.Now+1)}:=⟨a.EI,a.Cc,a.EH,a.EX,a.todo,a.Gs⟩;rw[Aa (not_not_intro e),Aa (not_not_intro e)];exact AN3 (x:=h) q rfl (λc=>by have:=hR.cnt c;show Ds h.AG c<=19;omega) (by show 1000+h.AI.length<=1048576;omega);rw[AY e,AY e]
theorem yR{w:A2}(a:DQ w)(now:Int):AJb w now=some ((Fk w).filter λp=>decide (p.At<=now)):=by have hlim:=Gk;have c:=KL a;unfold AJb;rw[Qq a,AB,collect (l:=Fk w) (λp=>if p.At<=now then some p else none) some c ?_ ?_];congr 1;generalize Fk w=l;induction l<;>grind;grind[lM,KW,BT,AB,BV,AW,D2,be];grind[lM,Ec,CI,AW,be]
theorem Wm(hR:RH h){k:Nat}(c:k<h.AI.length):ACV h k=some true:=by have a:=hR.len;unfold ACV Au;rw[GR hR.fit,GH.2 hR,AB,CB,Zk,AB,AW,A6,B6.2 (by omega)]
theorem AGf(hR:RH h){k:Nat}(c:k<h.AI.length):AJc h k=some (mF (cbn h k).B9 h.Now):=by
 have hlim:=Gk;have a:=(hR.ALW (k:=(k:Int)) (by omega) (by omega)).2;have e:=KL a;unfold AJc;rw[Wm hR c,AB,BW,CB,show at? h.AI (k:Int)=some (cbn h k) from Gq (by omega) (by omega),AB,yR a,AB];generalize hD:(Fk (cbn h k).B9).filter (λp=>decide (p.At<=h.Now))=D;have hDl:D.length<=1048576:=by rw[<-hD];exact Ax (List.length_filter_le _ _) e
 rw[collect (l:=D) (λp=>some p.Id) some hDl ?_ ?_];unfold mF;rw[<-hD];congr 1;generalize Fk (cbn h k).B9=l;induction l<;>grind;simp only[Rx,be];grind[CB,BT,AB,D2];grind[Rx,FX,CI,AW]
theorem ADK(hR:RH h){k:Nat}(g:k<h.AI.length):AJd h k=some (ZT h k):=by
 have ⟨hO,E⟩:=Un hR g;unfold AJd ZT;rw[H2 hR.fit,AB,AGf hR g,AB];generalize mF (cbn h k).B9 h.Now=D at *;refine(Dl (F:=lN D) (n:=D.length) (λi (v:AF)=>((i:Int),v)) (λi v=>RH v/\ALM v (D.drop i)) (λi v=>some (Vx (D.drop i) v)) (by omega) ?_ (v:=h) ⟨hR,hO⟩);rintro L i v ⟨j,c⟩ hi y;unfold lN Gg be;dsimp only;rcases AV i D.length with a|q;rw[D4 a]at c ⊢;have e:=c.2 D[i] (BQ ..);have ⟨s1,B,_⟩:=XC j c;simp only[S6 a,CB,BT a,AB,Wl j e.1 e.2,Bh a (show D.length<2 ^ 63 by omega)];exact y _ ⟨s1,B⟩ a;obtain rfl:i=D.length:=by omega
 rw[bnJ,Cx];rfl
theorem ph{l:List Ar}(a:l.length<=1048576){skip:List Int}(c:skip.length<=1048576)(free:Int):AJe l free skip=some (atF (ACz free skip) l 0):=by unfold AJe APH;rw[Su (l:=l) (p:=ACz free skip) (by omega) ?_ ?_,AB];intro L i h;unfold lO APG Au ACz;grind[CB,BT,AB,RI,AW,DE];grind[lO,HH,CI,AW]
theorem my(hR:RH h){k:Nat}(e:k<h.AI.length):AJf h k=some (Fa h k):=by have hlim:=Gk;have c:=hR.fit;have a:=c.Cc;have j:(oU h).length<=1048576:=Ax (B8 _ _) a;have g:=(hR.ALW (k:=(k:Int)) (by omega) (by omega)).1;unfold AJf;rw[Wm hR e,AB,BW,CB,collect (l:=h.AG) (λp=>if th p h.Now=true then some p.Id else none) (lP h k) a ?_ ?_];grind[lP,at?,cbn,AB,oU,ph,Wo,Fa,BV,ui];grind[lQ,Ru,BT,AB,aV,Be,AW,D2];grind[lQ,CI,AW]
theorem AGg(hR:RH h){k:Nat}(g:k<h.AI.length):AJh h k=some (if Fa h k=0 then (h,0) else (Jl h k (Fa h k),Fa h k)):=by have a:=hR.fit;unfold AJh be;rw[H2 a,AB,my hR g,AB,Be];by_cases c:Fa h k=0;grind;have ⟨j,q,y,B,E⟩:=nS hR g c;have e:=hR.ALW (k:=(k:Int)) (by omega) (by omega);have ec:at? h.AI (k:Int)=some (cbn h k):=Gq (by omega) (by omega);rw[Aa (by simpa using c),Aa c];simp only[H7 a,AB,Sv j,FP,ec,nA,YD (show 0<=(k:Int) by omega) (show (k:Int)<(h.AI.length:Int) by omega),Wh e.1,RM a.Cc,Ft,Wk e.2];rfl
theorem ANj(hR:RH h){k:Nat}(y:k<h.AI.length):BK (ZF k) big ([],h)=some (QI k 10 h []):=by
 refine cY (F:=ZF k) (λx=>some (QI k (10-x.1.length) x.2 x.1)) (λx=>RH x.2/\k<x.2.AI.length/\x.1.length+(cbn x.2 k).Row.length<=10) (λx=>(cbn x.2 k).Row.length) ?_ (x:=([],h)) ⟨hR,y,by have:=gx hR y;simpa using this⟩ (by have:=gx hR y;show (cbn h k).Row.length<_;omega);rintro L ⟨a,g⟩ ⟨q,c,e⟩ E;dsimp only at q c e E ⊢;unfold ZF;dsimp only;rw[AGg q c,AB];by_cases j:Fa g k=0;grind[AK2,CB];have ⟨s1,H⟩:=XT q c j;have B:=ADd j;rw[Aa j];have G:(Fa g k==0)=false:=by simpa using j
 rw[G,CI,DX,E (a++[Fa g k],Jl g k (Fa g k)) ⟨s1,by rw[(TT g k _).EH];exact c,by simp only[AH,AK,AT];omega⟩ (by dsimp only;omega)];congr 1;rw[show 10-a.length=(10-(a++[Fa g k]).length)+1 by simp only[AH,AK,AT];omega]
 conv=>rhs;unfold QI
 rw[Aa j]
theorem ALx(hR:RH h){k:Nat}(a:k<h.AI.length):AJi h k=some (LV h k):=by have ⟨c,e⟩:=S9 hR (Un hR a).1;unfold AJi;rw[ADK hR a,AB];exact ANj c (by rw[e.EH];exact a)
theorem ALw(q:Bt h)(who:Int):AJj h who=some (Wq h who):=by
 unfold AJj Wq be;rw[H2 q,AB,H8 q,AB];simp only[Be,bne_iff_ne,ne_eq,beq_iff_eq];by_cases a:verdict h ⟨7,who,0,0,0,0⟩=0;rw[Aa (not_not_intro a),Aa (not_not_intro a)];have hR:=HR a;have G:=hR.len;have ⟨n,c,e,L⟩:=Tp rfl a;subst e;have eg:h.BI.getD n 0=h.BI[n]:=by rw[BB,AU c];rfl
 have y:=B2.1 hR.Gs _ (Aw c);rw[B6]at y;unfold XW;simp only[BT c,AB,Ah,eg];by_cases g:h.BI[n]<0;have j:h.BI[n] = -1:=by omega
 rw[AY j,AY g];have H:0<h.BM.length:=by grind
 have I:h.BM.getD 0 0=h.BM[0]:=by rw[BB,AU H];rfl
 have O:=q.todo;have J:List.take (h.BM.length-Int.toNat 1) (List.drop (Int.toNat 1) h.BM)=h.BM.drop 1:=BH (by rw[BD];exact Aj _);rw[YE,AU H,AB,AB,D2 ⟨by omega,by omega⟩,I,J];rfl;have j:¬h.BI[n] = -1:=by omega
 rw[Aa j,Aa g];have ⟨k,E,ek⟩:=hR.job c g;have ⟨s1,Q,S⟩:=Xe hR E;have B:n<(LV h k).1.BI.length:=by rw[Q.Gs];exact c
 rw[ek,ALx hR E,AB,BT B,AB,AB];rfl;rw[AY a,AY a]
theorem AWo(a:Bt h)(q:Bo):AJk h q=some (doF h q):=by grind[AJk,doF,Nz,H2,H8,AB,ALu,ADI,mw,ADF,yL,ALz,ALw,Be,AW]
theorem mu(e:Bt h){l:List Bo}(G:l.length<=1048576):ACW h l=some (Di l h):=by unfold ACW;rw[H2 e,AB];refine(Dl (F:=lS l) (n:=l.length) (λi (v:List Ck×AF)=>(v.1,(i:Int),v.2)) (λi v=>Bt v.2/\v.1.length=i) (λi v=>some ((Di (l.drop i) v.2).1,v.1++(Di (l.drop i) v.2).2)) (by omega) ?_ (v:=([],h)) ⟨e,rfl⟩).trans ?_;rintro L i ⟨a,g⟩ ⟨j,q⟩ hi E;unfold lS Y4;rcases AV i l.length with c|B;have y:=zk j l[i];rw[D4 c];simp only[S6 c,CB,BT c,AB,AWo j,Bh c (show l.length<2 ^ 63 by omega)];rw[DX];have:=E (a++[(doF g l[i]).2],(doF g l[i]).1) ⟨y.2.1,by simp[q]⟩ c;rw[this];simp only[Di,BF,List.singleton_append];grind[CI,AW,Di];simp
structure Jv(w:CJ):Prop where
 KF:CS w.Ay
 done:w.K7.length<=1048576
 AHO:w.Ez.length<=1048576
 ids:∀r∈w.Ez,r.Ids.length<=1048576
def Iv(r:Ad):CJ×Bool:=if (Iq r).2=true then (⟨(Iq r).1,[],[],0⟩,true) else (⟨LR,[],[],0⟩,false)
theorem AGo(a:r.AZ.length<=1048576):AIV r=some (Iv r):=by unfold AIV Iv;rw[fD a,AB,BW,Be];split<;>rfl
theorem AAN(e:r.AZ.length<=1048576):Jv (Iv r).1:=by have a:=We e;unfold Iv;split;exact⟨a,by simp,by simp,by simp⟩;rename_i c;unfold Iq at a c;split at a;grind;exact⟨a,by simp,by simp,by simp⟩
def OF(a:Bp):Bp:=if Eu a=true then ⟨a.Data,a.Data.length⟩ else a
theorem NY(a:Bp):rz a=some (OF a):=by grind[rz,RC,OF,Dw,AB,Be,AW]
theorem su(a:Bp):ABT a=some (OF a):=by unfold ABT OF;rw[Dw,AB,BW,Be];split<;>rfl
def JV(e:Ai):Ai×List Ck:=
 if DC e=false then (e,[]) else (⟨(Di e.Laid e.BG).1,{e.Ac with Log:=OF e.Ac.Log},e.Seq,[]⟩,(Di e.Laid e.BG).2)
theorem dQ(a:CS e):sA e=some (JV e):=by unfold sA JV;rw[Ha a,AB,Ed a,AB,BW,Be];by_cases c:DC e=true;rw[AY c,Aa (by simp[c]),QN a.Dt a.laid,AB,NY,AB];grind
theorem QP(a:Bp):(OF a).Data=a.Data:=by unfold OF;split<;>rfl
theorem tt(a:CS e):CS (JV e).1/\(JV e).2.length<=1048576/\∀r∈(JV e).2,r.Ids.length<=1048576:=by unfold JV;split;grind;have ⟨c,j,g⟩:=Io e.Laid a.Dt;have q:=a.laid;exact⟨⟨c,by rw[QP];exact a.log,a.even,a.odd,by simp⟩,by dsimp only;omega,λr h=>by have:=g r h;omega⟩
theorem ADR{q:Bo}(h:(IJ e q).2≠0):(IJ e q).1=e:=by unfold IJ at h ⊢;grind
theorem V2{q:Bo}(h:(IJ e q).2=0):DC (IJ e q).1=true/\DC e=true/\LD q=true/\(IJ e q).1.BG=e.BG/\(IJ e q).1.Laid=e.Laid++[q]/\(IJ e q).1.Seq=e.Seq+1:=by
 unfold IJ at h ⊢;by_cases a:DC e=false;rw[AY a]at h;cases h;rw[Aa a]at h ⊢;rw[FF]at a;by_cases c:LD q=false;rw[AY c]at h;cases h;rw[Aa c]at h ⊢;rw[FF]at c;by_cases j:e.Seq=1000000;rw[AY j]at h;cases h;rw[Aa j]at h ⊢;by_cases g:e.Laid.length=8\/(FL e.Ac.Log (frB (w64 (e.Seq+1)) (Fs q))).2=false;rw[AY g]at h;cases h;rw[Aa g];have B:=DM a;have ew:w64 (e.Seq+1)=e.Seq+1:=A6 (by omega) (by omega);rw[ew]at g ⊢;have y:Eu (FL e.Ac.Log (frB (e.Seq+1) (Fs q))).1=true:=by grind[FL,DZ]
 grind[DC,B6,Ek]
def AIB(e:Ai)(q:Bo):Ai×Ck:=
 if (IJ e q).2≠0 then (e,⟨(IJ e q).2,[]⟩) else ((JV (IJ e q).1).1,(JV (IJ e q).1).2.getD (e.Laid.length) ⟨0,[]⟩)
theorem AGl(a:CS e){q:Bo}(h:(IJ e q).2=0):at? (JV (IJ e q).1).2 (w64 (((JV (IJ e q).1).2.length:Int)-1))=some ((JV (IJ e q).1).2.getD (e.Laid.length) ⟨0,[]⟩)/\(JV (IJ e q).1).2.length=e.Laid.length+1:=by
 have ⟨c,E,G,H,g,I⟩:=V2 h;have j:=Zp a q;have y:(JV (IJ e q).1).2.length=e.Laid.length+1:=by unfold JV;rw[Aa (by simp[c])];rw[(Io _ j.Dt).2.1,g];simp
 refine⟨?_,y⟩;have B:=a.laid;grind[A6,BT]
theorem ANs(a:CS e)(q:Bo):AJl e q=some (AIB e q):=by grind[AJl,AIB,VT,AB,Be,IJ,AGl,dQ,Zp,be]
def Xd(a b:Ad):Bool:=F5 (·==·) a.AZ b.AZ&&(a.Cj==b.Cj&&(a.Room==b.Room&&(a.BL==b.BL&&(a.Ca==b.Ca&&(a.CD==b.CD&&(a.Rest==b.Rest&&(a.Cr==b.Cr&&a.Da==b.Da)))))))
theorem VW{a b:Ad}(c:a.AZ.length<2 ^ 62):ACE a b=some (Xd a b):=by unfold ACE Au Xd;rw[KP c,AB];simp only[AW,DE]
def pS(a b:A2):Bool:=Iu a&&(Iu b&&F5 eqP (Fk a) (Fk b))
theorem oY{a b:A2}(c:DQ a)(e:DQ b):AI0 a b=some (pS a b):=by have g:=KL c;unfold AI0 Au pS;simp only[JN c,JN e,Q1 c,Q1 e,Nd (show (Fk a).length<2 ^ 62 by omega),AB,AW,DE]
theorem m9{a b:A2}(c:DQ a)(e:DQ b):NF a b=some (pS a b):=by have g:=KL c;unfold NF Au pS;simp only[JG c,JG e,Qq c,Qq e,Nd (show (Fk a).length<2 ^ 62 by omega),AB,AW,DE]
def AZE(a b:BO):Bool:=a.Total==b.Total&&(a.Et==b.Et&&(a.FU==b.FU&&(a.Ge==b.Ge&&(a.Gm==b.Gm&&true))))
def AAn(a b:Ak):Bool:=Q7 a&&(Q7 b&&(AZE a.AZ b.AZ&&(F5 eqE a.Row b.Row&&pS a.B9 b.B9)))
theorem oX{a b:Ak}(c:E3 a)(e:E3 b):AI1 a b=some (AAn a b):=by have g:=c.1;unfold AI1 Au AAn AZE;simp only[Tf c,Tf e,O8 (show a.Row.length<2 ^ 62 by omega),oY c.2 e.2,AB,AW,DE]
theorem m8{a b:Ak}(c:E3 a)(e:E3 b):ND a b=some (AAn a b):=by have g:=c.1;unfold ND Au AAn AZE;simp only[TI c,TI e,O8 (show a.Row.length<2 ^ 62 by omega),m9 c.2 e.2,AB,AW,DE]
def AWf(x y:AR):Bool:=x.Id==y.Id&&(x.Ab==y.Ab&&(x.Bs==y.Bs&&(x.BL==y.BL&&(x.DH==y.DH&&(x.Since==y.Since&&(x.A3==y.A3&&(x.State==y.State&&(x.DK==y.DK&&(x.De==y.De&&true)))))))))
def OS(a b:AF):Bool:=
 C0 a&&(C0 b&&(Xd a.AQ b.AQ&&(a.Now==b.Now&&(a.A3==b.A3&&(F5 AWf a.AG b.AG&&(F5 (·==·) a.BM b.BM&&(F5 (·==·) a.BI b.BI&&F5 AAn a.AI b.AI)))))))
theorem U5{a b:AF}(c:Bt a)(g:Bt b):KU a b=some (OS a b):=by
 have y:=c.EI;have B:=c.Cc;have E:=c.EH;have G:=c.todo;have H:=c.Gs;have j:CY a.AI b.AI=some (F5 AAn a.AI b.AI):=by unfold CY;refine oO (by omega) ?_ ?_;intro L i h e;unfold CR;rw[bnT h,BT h,AB,BT e,AB,m8 (c.EX _ (Aw h)) (g.EX _ (Aw e)),AB];intro L;unfold CR EZ;rw[bnJ]
 have q:E8 a.AG b.AG=some (F5 AWf a.AG b.AG):=by unfold E8;refine oO (by omega) ?_ ?_;intro L i h e;unfold Ep;rw[bnT h,BT h,AB,BT e,AB];rfl;intro L;unfold Ep EZ;rw[bnJ]
 unfold KU Au OS;simp only[GR c,GR g,VW (show a.AQ.AZ.length<2 ^ 62 by omega),q,j,KP (show a.BM.length<2 ^ 62 by omega),KP (show a.BI.length<2 ^ 62 by omega),AB,AW,DE]
theorem tq{eq:f->f->Bool}{a b:List f}{F:(Int->AA Bool)->Int->AA Bool}{E:Bool}(c:a.length<2 ^ 63)(e:a.length=b.length)
 (step:∀L i (h:i<a.length) (j:i<b.length),F L (i:Int)=br (!(eq a[i] b[i])) (some false) (L (w64 ((i:Int)+1)))) (stop:∀L,F L (a.length:Int)=some E):BK F big 0=some (F5 eq a b&&E):=by
 refine(Dl (n:=a.length) (λi (_:Unit)=>(i:Int)) (λ_ _=>True) (λi _=>some (F5 eq (a.drop i) (b.drop i)&&E)) c ?_ (v:=()) trivial);intro L i _ _ hi g;rcases AV i a.length with h|h;rw[step L i h (by omega),Bh h c,D4 h,D4 (l:=b) (i:=i) (by omega),F5,BW];cases eq a[i] b[i] with|true=>rw[CB,g () trivial h];rfl|false=>rfl
 obtain rfl:i=a.length:=by omega
 rw[stop,Cx,A9 (by omega)];rfl
theorem oI{a b:Ad}:Xd a b=true↔a=b:=by unfold Xd;have ⟨s,c,e,a3,a4,g,h,j,q⟩:=a;have ⟨t,y,B,E,G,H,I,J,L⟩:=b;grind[KZ,Ad.mk.injEq]
theorem Mf{a b:AF}(c:Bt a)(E:Bt b):ABv a b=some (OS a b):=by
 have O:=c.EI;have Q:=c.Cc;have S:=c.EH;have X:=c.todo;have Y:=c.Gs;have G:KD a b true=some false:=rfl;have J:C0 a=true->C0 b=true->Xd a.AQ b.AQ=true->a.AG.length=b.AG.length->KD a b false=some (F5 AWf a.AG b.AG&&F5 AAn a.AI b.AI):=by
  intro gA gB gR gp;have B:a.AI.length=b.AI.length:=by have j:=(GH.1 gA).EH;have e:=(GH.1 gB).EH;rw[j,e,oI.1 gR]
  unfold KD;rw[CI];refine tq (by omega) gp ?_ ?_;intro L i h g;unfold kH;rw[bnT h,BT h,AB,BT g,AB];rfl;intro L;unfold kH ABw;rw[bnJ,<-Ce (F5 AAn a.AI b.AI)];refine tq (by omega) B ?_ ?_;intro L i h g;unfold kI;rw[bnT h,BT h,AB,BT g,AB,oX (c.EX _ (Aw h)) (E.EX _ (Aw g)),AB];intro L;unfold kI EZ;rw[bnJ]
 unfold ABv OS;rw[GV c,AB,GV E,AB,VW (by omega),AB,KP (by omega),AB,KP (by omega),AB];simp only[AW,G,BW];cases gA:C0 a;rfl;cases gB:C0 b;rfl;cases gR:Xd a.AQ b.AQ;rfl;simp only[CB,Co];by_cases n:a.Now=b.Now;by_cases t:a.A3=b.A3;by_cases p:a.AG.length=b.AG.length;have j:(a.Now != b.Now)=false:=by simp[n]
 have e:(a.A3 != b.A3)=false:=by simp[t]
 have q:((a.AG.length:Int) != (b.AG.length:Int))=false:=by simp[p]
 have H:(a.Now==b.Now)=true:=by simp[n]
 have y:(a.A3==b.A3)=true:=by simp[t]
 rw[j,e,q,H,y,CI,CI,CI,Co,Co];cases F5 (·==·) a.BM b.BM;simp;cases F5 (·==·) a.BI b.BI;simp[G];rw[CB,B5,J gA gB gR p,Co,Co];have q:((a.AG.length:Int) != (b.AG.length:Int))=true:=by simp;omega
 have I:F5 AWf a.AG b.AG=false:=oQ p;rw[q,CB,YH,YH,I];simp;have e:(a.A3 != b.A3)=true:=by simpa using t
 have y:(a.A3==b.A3)=false:=by simpa using t
 rw[e,CB,YH,y];simp;grind[CB]
theorem PX(s:BY):∃c,Kk s=some c/\Wc s=some c/\(c = -1\/c=0\/c=1):=by have ⟨r,h,j,_⟩:=Dz s 0;have ⟨r',q,y,_⟩:=Dz s 1;unfold Kk Wc Ud Yy Ue;rw[h,j,q,y,AB,AB,AB,AB];cases e:r.2.2<;>cases g:r'.2.2<;>simp only[BW,CB,CI,AW,e,g,B5,Ei];grind;exact⟨_,rfl,rfl,by decide⟩;exact⟨_,rfl,rfl,by decide⟩;by_cases a:r.2.1>=r'.2.1;rw[show decide (r.2.1>=r'.2.1)=true from decide_eq_true a,show decide (r'.2.1>r.2.1)=false from decide_eq_false (by omega)];exact⟨_,rfl,rfl,by decide⟩;rw[show decide (r.2.1>=r'.2.1)=false from decide_eq_false a,show decide (r'.2.1>r.2.1)=true from decide_eq_true (by omega)];exact⟨_,rfl,rfl,by decide⟩
def WV(s:BY)(k:Int)(a:Bp):BY:=if (k.tmod 2==0)=true then {s with DR:=a} else ⟨s.Log,s.DR,a⟩
theorem Me(s:BY)(k:Int)(a:Bp):lE s k a=some (WV s k a):=by unfold lE WV;rw[Be,AW,AW];split<;>rfl
theorem SX(s:BY)(l:Bp)(k:Int):WV ⟨l,s.DR,s.Odd⟩ k (CM s k)=⟨l,s.DR,s.Odd⟩:=by unfold WV CM;split<;>rfl
def On(a:Bp)(p:Int):Bp×Bool:=if Eu a=true/\inB p 0 a.Data.length=true/\a.Safe=a.Data.length then (⟨a.Data.drop p.toNat,(a.Data.length:Int)-p⟩,true) else (a,false)
theorem WH(a:Bp)(p:Int):AJR a p=some (On a p):=by grind[AJR,Nx,On,Dw,AB,Db,AW,Be,Eu,inB,D2,A6]
theorem ALy(a:Bp)(p:Int):UF a p=some (On a p):=by grind[UF,Nx,On,Dw,AB,Db,AW,Be,Eu,inB,D2,A6]
theorem ANr(h:(On a p).2=false):(On a p).1=a:=by unfold On at h ⊢;grind
theorem tx(a:Bp)(p:Int):(On a p).1.Data.length<=a.Data.length:=by unfold On;split<;>simp
theorem AAZ{s:List UInt8}(h:(FL a s).2=false):(FL a s).1=a:=by unfold FL at h ⊢;grind
theorem Te(a:CS e)(k:Int):(CM e.Ac k).Data.length<=1048576:=by unfold CM;split;exact a.even;exact a.odd
theorem Z6(c:CS e)(h:a.Data.length<=1048576):CS {e with Ac:=WV e.Ac k a}:=by unfold WV;split<;>exact⟨c.Dt,c.log,by first|exact h|exact c.even,by first|exact h|exact c.odd,c.laid⟩
theorem pZ{e:Ai}(a:CS e)(p:Int):∃r,Kl e p=some r/\Tw e p=some r/\CS r.1:=by
 have ⟨n,B,E,J⟩:=PX e.Ac;have ⟨r,G,H,_⟩:=Dz e.Ac n;unfold Kl Tw;rw[Ha a,AE8 a,E,Ed a,RJ a,Db,Zk,show w64 (4-1)=3 from rfl];simp only[AB,AW];cases I:DC e with
 |false=>exact⟨(e,false),rfl,rfl,a⟩|true=>
 simp only[B5,CI];by_cases g:(e.Laid.length:Int)>0;rw[decide_eq_true g];exact⟨(e,false),rfl,rfl,a⟩;rw[brF g,brF g];cases hi:inB p 0 3 with
 |false=>exact⟨(e,false),rfl,rfl,a⟩|true=>
 simp only[B5,CI];unfold Ps Hb Ny Hc;rw[CI,B,AB];by_cases j:n<0;rw[brT j,brT j];exact⟨(e,false),rfl,rfl,a⟩;have q:=Te a (w64 (1-n));have c:=λs=>ADH (s:=s) q;simp only[decide_eq_false j,CI,EK,EK,AB,Me,Me,AW,JZ a.Dt,Wj a.Dt,OE (Ax (Fz e.BG e.Seq) (by omega)),c _ (Ax (Fz e.BG e.Seq) (by omega)),NY,su,G,H,O5 a.log,yP a.log,WH,ALy,Ha a,BW,CB];have y:∀k,WV e.Ac k (CM e.Ac k)=e.Ac:=λk=>SX e.Ac e.Ac.Log k;cases p==0 with
 |true=>exact⟨_,rfl,rfl,Z6 a (by simp)⟩|false=>
 rw[CI,CI];cases p==1 with
 |true=>
  rw[CB,CB];cases h:(FL (CM e.Ac (w64 (1-n))) (Cu e.BG e.Seq)).2 with
  |true=>exact⟨_,rfl,rfl,Z6 a (dg q)⟩|false=>exact⟨(e,false),rfl,by rw[AAZ h,y],a⟩
 |false=>
 rw[CI,CI];cases p==2 with
 |true=>exact⟨_,rfl,rfl,Z6 a (by rw[QP];exact q)⟩|false=>
 rw[CI,CI];cases h:(On e.Ac.Log (Xp r.2.1 0 (DW e.Ac.Log.Data))).2 with
 |true=>exact⟨_,rfl,by rw[SX],by rw[SX];exact⟨a.Dt,Ax (tx _ _) a.log,a.even,a.odd,a.laid⟩⟩|false=>exact⟨(e,false),rfl,by rw[ANr h],a⟩
def aft:Int->List By->List By|_,[]=>[]|v,f::l=>if f.Seq<=v then aft v l else if f.Seq=v+1 then f::aft (v+1) l else []
def AVy(f:By):Prop:=1<=f.Seq/\f.Seq<=1000000/\f.Body.length<=60
theorem APd:∀(f:Nat) (s:List UInt8) (i:Int),∀x∈frs f s i,AVy x
 |0,s,i,x,c=>by simp[frs]at c|f+1,s,i,x,c=>by unfold frs at c;split at c;rename_i h;rcases Ae.1 c with e|e;rw[e];unfold N4 at h ⊢;split at h;rename_i hi;rw[AY hi];rcases P0 (s.drop i.toNat) i with ⟨q,b,a,y,g⟩|⟨j,g⟩;rw[g];exact⟨a.1.1,a.1.2,a.2.2⟩;rw[g]at h;simp at h;simp at h;exact APd f s _ x e;simp at c
theorem bY(s:List UInt8):∀x∈DW s,AVy x:=APd _ _ _
theorem fu:∀(l:List By) (v:Int),(aft v l).length<=l.length
 | [],v=>by simp[aft]|f::l,v=>by unfold aft;have:=fu l v;have:=fu l (v+1);grind
theorem uZ:∀(l:List By) (v:Int),∀x∈aft v l,x∈l
 | [],v,x,a=>by simp[aft]at a|f::l,v,x,a=>by unfold aft at a;have c:=uZ l v x;have e:=uZ l (v+1) x;grind
theorem AHV{l:List By}(E:l.length<=1048576)(y:∀f∈l,AVy f)(B:0<=p/\p<=1000000):AJT l p=some (aft p l):=by unfold AJT;refine(Dl (n:=l.length) (λi (v:Int×List By)=>(v.1,v.2,(i:Int))) (λi v=>v.2.length<=i/\0<=v.1/\v.1<=1000000) (λi v=>some (v.2++aft v.1 (l.drop i))) (by omega) ?_ (v:=(p,[])) (by simpa using B)).trans (by simp);rintro L i ⟨v,acc⟩ ⟨q,a,c⟩ hi j;unfold ACS lG GG;dsimp only at q a c ⊢;simp only[dec_lt,AW];rcases AV i l.length with h|h;have ⟨G,H,I⟩:=y _ (Aw h);rw[brT h,BT h,AB,AB,AB,AB,D4 h,Bh h,BV,A6];unfold aft;by_cases e:l[i].Seq<=v;rw[AY e,AY e];exact j (v,acc) ⟨by dsimp only;omega,a,c⟩ h;rw[Aa e,Aa e];by_cases g:l[i].Seq=v+1;rw[AY g,show (l[i].Seq-1 != v)=false by rw[bne_eq_false_iff_eq];omega,CI,DX];have:=j (l[i].Seq,acc++[l[i]]) ⟨by simp;omega,by dsimp only;omega⟩ h;rw[this,g];simp;grind[CB];rw[brF,A9 h];simp[aft]
theorem AGe{l:List By}(E:l.length<=1048576)(y:∀f∈l,AVy f)(B:0<=p/\p<=1000000):AIn l p=some (aft p l):=by unfold AIn;refine(Dl (n:=l.length) (λi (v:Int×List By)=>(v.2,v.1,(i:Int))) (λi v=>v.2.length<=i/\0<=v.1/\v.1<=1000000) (λi v=>some (v.2++aft v.1 (l.drop i))) (by omega) ?_ (v:=(p,[])) (by simpa using B)).trans (by simp);rintro L i ⟨v,acc⟩ ⟨q,a,c⟩ hi g;unfold ABt kD GG;dsimp only at q a c ⊢;simp only[dec_lt,AW];rcases AV i l.length with h|h;have ⟨G,H,I⟩:=y _ (Aw h);rw[brT h,BT h,AB,D4 h,Bh h,BV,A6];unfold aft;by_cases e:l[i].Seq<=v;rw[AY e,AY e];exact g (v,acc) ⟨by dsimp only;omega,a,c⟩ h;rw[Aa e,Aa e];by_cases j:l[i].Seq=v+1;rw[AY j,show (l[i].Seq != v+1)=false by rw[bne_eq_false_iff_eq];omega,CI,DX];have:=g (v+1,acc++[l[i]]) ⟨by simp;omega,by dsimp only;omega⟩ h;rw[this];simp;grind[CB];rw[brF,A9 h];simp[aft]
def notes:List By->List Bo| []=>[]|f::l=>if (QF f.Body).2=true then (QF f.Body).1::notes l else []
theorem cm:∀l,(notes l).length<=l.length
 | []=>by simp[notes]|f::l=>by unfold notes;have:=cm l;split<;>simp<;>omega
theorem tJ{l:List By}(a:l.length<=1048576){G:List UInt8->AA (Bo×Bool)}(hG:∀f∈l,G f.Body=some (QF f.Body)){F:(List Bo×Int->AA (List Bo))->List Bo×Int->AA (List Bo)}
 (hF:∀L acc i,F L (acc,i)=br (decide (i<(l.length:Int))) (bd (at? l i) λx=>bd (G x.Body) λy=>br (!y.2) (some acc) (gd (acc.length+[y.1].length<=lim) (L (acc++[y.1],w64 (i+1))))) (some acc)) :
 BK F big ([],0)=some (notes l):=by refine(Dl (n:=l.length) (λi (v:List Bo)=>(v,(i:Int))) (λi v=>v.length<=i) (λi v=>some (v++notes (l.drop i))) (by omega) ?_ (v:=[]) (by simp)).trans (by simp);grind[BT,AB,D4,Bh,Be,notes,D2,lim]
theorem zp{l:List By}(e:l.length<=1048576)(a:∀f∈l,f.Body.length<=1048576):AIg l=some (notes l):=by unfold AIg;exact tJ e (G:=rC) (λf c=>aU (a f c)) λL acc i=>by unfold ABf HS;simp only[AW]
theorem yQ{l:List By}(e:l.length<=1048576)(a:∀f∈l,f.Body.length<=1048576):AIh l=some (notes l):=by unfold AIh;exact tJ e (G:=ABI) (λf c=>yS (a f c)) λL acc i=>by unfold ABg HS;simp only[AW]
theorem Oq{s:BY}{k:Int}{r:AF×Int×Bool}(h:GX s k=some r):0<=r.2.1/\r.2.1<=1000000:=by
 unfold GX at h;rw[EK,AB,Dw,AB,BW]at h;cases a:Eu (CM s k) with
 |false=>rw[a,CI]at h;cases h;decide
 |true=>
  have j:=DZ.1 a;rw[a,CB,D2 j.2]at h;have ⟨q,g,y,c⟩:=K9 (s:=List.take (CM s k).Safe.toNat (CM s k).Data) (by rw[Ag];omega);rw[g,AB]at h;cases h;cases e:q.2.2 with
  |false=>rw[c.no e];decide|true=>have B:=(c.yes e).2.2;grind[Cu,B6,AB1,Yx,BV,AW,be]
def MA(s:BY)(n:Int)(q:AF×Int×Bool):AF×Int×Bool:=
 if Ek s=true/\¬n<0 then ((Di (notes (aft q.2.1 (DW s.Log.Data))) q.1).1,q.2.1+(notes (aft q.2.1 (DW s.Log.Data))).length,true) else (Jd,0,false)
structure Oa(s:BY)(n:Int)(q:AF×Int×Bool):Prop where
 sn:Kk s=some n
 im:Wc s=some n
 sr:GX s n=some q
 ir:MJ s n=some q
 fit:Bt q.1
 lo:0<=q.2.1
 hi:q.2.1<=1000000
theorem Xc(s:BY):∃n q,Oa s n q:=by have ⟨n,c,e,_⟩:=PX s;have ⟨q,q1,g,h⟩:=Dz s n;have ⟨a,b⟩:=Oq q1;exact⟨n,q,c,e,q1,g,h,a,b⟩
theorem recovered{s:BY}(j:s.Log.Data.length<=1048576){n:Int}{q:AF×Int×Bool}(h:Oa s n q):sG s=some (MA s n q)/\lZ s=some (MA s n q)/\Bt (MA s n q).1:=by
 have E:=NH s.Log.Data;have a:=bY s.Log.Data;have y:=fu (DW s.Log.Data) q.2.1;have I:=cm (aft q.2.1 (DW s.Log.Data));have e:∀f∈aft q.2.1 (DW s.Log.Data),f.Body.length<=1048576:=λf B=>by have:=(a f (uZ _ _ f B)).2.2;omega
 have H:=h.lo;have G:=h.hi;unfold sG lZ lH lh MA;simp only[h.sn,h.im,h.sr,h.ir,AB,O9,AW,VS j,U3 j];rw[AHV (by omega) a ⟨h.lo,h.hi⟩,AGe (by omega) a ⟨h.lo,h.hi⟩,AB,AB,zp (by omega) e,yQ (by omega) e,AB,AB,QN h.fit (by omega),mu h.fit (by omega),AB,A6];cases e:Ek s with
 |false=>exact⟨rfl,rfl,Na⟩|true=>by_cases c:n<0;rw[decide_eq_true c,Aa (λg=>g.2 c)];exact⟨rfl,rfl,Na⟩;rw[decide_eq_false c,AY ⟨rfl,c⟩];exact⟨rfl,rfl,(Io _ h.fit).1⟩
def used:Int->Int->List By->Int|_,e,[]=>e|v,e,f::l=>if f.Seq<=v then used v f.Next l else if f.Seq=v+1/\(QF f.Body).2=true then used (v+1) f.Next l else e
def pJ(t:Int):Int->Int->List By->Int|_,e,[]=>e|v,e,f::l=>if f.Seq<=v then pJ t v f.Next l else if f.Seq=v+1/\f.Seq<=t then pJ t (v+1) f.Next l else e
theorem pK:∀(l:List By) (v e:Int),pJ (v+(notes (aft v l)).length) v e l=used v e l
 | [],v,e=>rfl|f::l,v,e=>by unfold pJ used;unfold aft;by_cases a:f.Seq<=v;rw[AY a,AY a,AY a,pK l];rw[Aa a,Aa a,Aa a];by_cases c:f.Seq=v+1;rw[AY c];unfold notes;by_cases h:(QF f.Body).2=true;rw[AY h,AK,AY (show _/\_ from ⟨c,by omega⟩),AY (show _/\(QF f.Body).2=true from ⟨c,h⟩),<-pK l (v+1)];congr 1;omega;grind;rw[Aa c,Aa (λg=>c g.1),Aa (λg=>c g.1)]
def QR(s:BY)(n:Int)(q:AF×Int×Bool):Int:=if Ek s=true/\¬n<0 then used q.2.1 0 (DW s.Log.Data) else 0
theorem WI{s:BY}(Q:s.Log.Data.length<=1048576){n:Int}{q:AF×Int×Bool}(h:Oa s n q):sH s=some (QR s n q):=by
 have O:=NH s.Log.Data;have j:=bY s.Log.Data;have B:=h.lo;have y:=h.hi;unfold sH lI QR;simp only[h.sn,h.sr,AB,O9,AW,VS Q];have key:BK (lK (DW s.Log.Data)) big (q.2.1,0,0)=some (used q.2.1 0 (DW s.Log.Data)):=by generalize DW s.Log.Data=l at *;refine(Dl (n:=l.length) (λi (v:Int×Int)=>(v.1,v.2,(i:Int))) (λi v=>0<=v.1/\v.1<=1000000) (λi v=>some (used v.1 v.2 (l.drop i))) (by omega) ?_ (v:=(q.2.1,0)) ⟨B,y⟩).trans (by simp);rintro L i ⟨v,e⟩ ⟨E,G⟩ hi J;unfold lK lJ CT be;simp only[dec_lt,AW];rcases AV i l.length with h|h;have ⟨X,Y,Z⟩:=j _ (Aw h);rw[brT h];simp only[BT h,AB];rw[D4 h,Bh h,BV,A6,aU (by omega)];unfold used;by_cases H:l[i].Seq<=v;rw[AY H,ifN,show (l[i].Seq==v+1)=false by rw[beq_eq_false_iff_ne];omega,CI];exact J (v,l[i].Next) ⟨E,G⟩ h;rw[Aa H];by_cases I:l[i].Seq=v+1;rw[ifN,show (l[i].Seq==v+1)=true by rw[beq_iff_eq];omega,CB,AB,BW,Be];by_cases a:(QF l[i].Body).2=true;rw[AY a,AY ⟨I,a⟩];exact J (v+1,l[i].Next) ⟨by omega,by dsimp only;omega⟩ h;rw[Aa a,Aa (λg=>a g.2)];rw[ifP,Aa (λg=>I g.1)];rw[brF,A9 h];simp[used]
 rw[key];cases S:Ek s with
 |false=>rfl|true=>by_cases c:n<0;rw[decide_eq_true c,Aa (λg=>g.2 c)];rfl;rw[decide_eq_false c,AY ⟨rfl,c⟩];rfl
theorem sv(O:s.Log.Data.length<=1048576){q:AF×Int×Bool}(h:Oa s n q):sK s=some (QR s n q):=by
 have Y:=NH s.Log.Data;have c:=bY s.Log.Data;have y:=h.lo;have j:=h.hi;unfold sK QR;simp only[(recovered O h).2.1,h.im,h.ir,AB,Cy,Kb,U3 O];by_cases a:Ek s=true/\¬n<0;have G:(MA s n q).2=(q.2.1+(notes (aft q.2.1 (DW s.Log.Data))).length,true):=by unfold MA;rw[AY a]
 rw[G,AY a];rw[BW,CB,<-pK];have Z:=cm (aft q.2.1 (DW s.Log.Data));have X:=fu (DW s.Log.Data) q.2.1;have S:(MA s n q).2.1=q.2.1+(notes (aft q.2.1 (DW s.Log.Data))).length:=by rw[G]
 generalize q.2.1+((notes (aft q.2.1 (DW s.Log.Data))).length:Int)=t at *;generalize MA s n q=r at *;generalize DW s.Log.Data=l at *;refine(Dl (n:=l.length) (λi (v:Int×Int)=>(v.1,v.2,(i:Int))) (λi v=>0<=v.1/\v.1<=1000000) (λi v=>some (pJ t v.1 v.2 (l.drop i))) (by omega) ?_ (v:=(q.2.1,0)) ⟨y,j⟩).trans (by simp);rintro L i ⟨v,e⟩ ⟨B,E⟩ hi Q;unfold ACe lj CT ll be;simp only[dec_lt,AW];rcases AV i l.length with h|h;have ⟨o1,o2,o3⟩:=c _ (Aw h);rw[brT h];simp only[BT h,AB];rw[D4 h,Bh h,BV,A6,S];unfold pJ;by_cases H:l[i].Seq<=v;rw[AY H,ifN];exact Q (v,l[i].Next) ⟨B,E⟩ h;rw[Aa H,ifP];by_cases I:l[i].Seq=v+1;rw[show (l[i].Seq != v+1)=false by rw[bne_eq_false_iff_eq];omega,CI,BV];by_cases J:l[i].Seq<=t;rw[ifN,AY ⟨I,J⟩];exact Q (v+1,l[i].Next) ⟨by omega,by dsimp only;omega⟩ h;rw[ifP,Aa (λg=>J g.2)];rw[show (l[i].Seq != v+1)=true by rw[bne_iff_ne];omega,CB,CB,Aa (λg=>I g.1)];rw[brF,A9 h];simp[pJ];rw[show MA s n q=(Jd,0,false) by unfold MA;rw[Aa a],Aa a];rfl
def aj(a:Bp)(p:Int):Bp×Bool:=if Eu a=true/\inB p 0 a.Data.length=true then (⟨a.Data.take p.toNat,if a.Safe<p then a.Safe else p⟩,true) else (a,false)
theorem uB(a:Bp)(p:Int):sJ a p=some (aj a p):=by grind[sJ,lY,aj,Dw,AB,Db,AW,Eu,inB,CB,CI,D2,N7]
theorem AL0(a:Bp)(p:Int):sL a p=some (aj a p):=by grind[sL,ln,M2,aj,Dw,AB,Db,AW,Eu,inB,CB,CI,D2]
theorem uN(a:Bp)(p:Int):(aj a p).1.Data.length<=a.Data.length:=by grind[aj]
def Qd(s:BY):Bool:=(s.Log.Safe==(s.Log.Data.length:Int))&&((s.DR.Safe==(s.DR.Data.length:Int))&&(s.Odd.Safe==(s.Odd.Data.length:Int)))
theorem uA(s:BY):AJU s=some (Qd s):=by unfold AJU Au ACT Qd;simp only[AB,AW,DE]
theorem ALt(s:BY):AJs s=some (Qd s):=by unfold AJs Au Qd;simp only[AW,DE]
def AZ2:BY:=⟨⟨[],0⟩,⟨[],0⟩,⟨[],0⟩⟩
def ALI:Ai:=⟨Jd,AZ2,0,[]⟩
theorem Ve:CS ALI:=⟨Na,by decide,by decide,by decide,by decide⟩
def HM(s:BY)(n:Int)(q:AF×Int×Bool):Ai×Bool:=
 if (MA s n q).2.2=true/\Qd s=true then (⟨(MA s n q).1,⟨OF (aj s.Log (QR s n q)).1,s.DR,s.Odd⟩,(MA s n q).2.1,[]⟩,true) else (ALI,false)
theorem AZ6{s:BY}(a:s.Log.Data.length<=1048576)(j:s.DR.Data.length<=1048576)(y:s.Odd.Data.length<=1048576){n:Int}{q:AF×Int×Bool}(h:Oa s n q):eH s=some (HM s n q)/\AJt s=some (HM s n q)/\CS (HM s n q).1:=by
 have ⟨c,e,g⟩:=recovered a h;have B:=uN s.Log (QR s n q);unfold eH AJt ZK lq HM;simp only[c,e,AB,uA,ALt,AW,WI a h,sv a h,uB,AL0,OG,NY,su];cases (MA s n q).2.2 with
 |false=>exact⟨rfl,rfl,Ve⟩|true=>
  cases Qd s with
  |false=>exact⟨rfl,rfl,Ve⟩|true=>exact⟨rfl,rfl,by rw[AY ⟨rfl,rfl⟩];exact⟨g,by rw[QP];omega,j,y,by simp⟩⟩
def fA(a:Bp)(p:Int):Int:=if p<0 then a.Safe else if p<a.Data.length-a.Safe then a.Safe+p else a.Data.length
def E5(a:Bp)(p:Int):Bp:=if Eu a=true then ⟨a.Data.take (fA a p).toNat,fA a p⟩ else a
theorem AWz(b:Int):Pu 0 b=some (if 0<b then b else 0):=by unfold Pu;rw[BV];grind
theorem AZF(p:Int)(a:0<=m):AJS p 0 m=some (if p<0 then 0 else if p<m then p else m):=by unfold AJS M2;congr 1;grind
theorem ANu(a:Bp)(p:Int):sP a p=some (E5 a p):=by grind[sP,E5,Dw,AB,BW,DZ,CB,N7,AWz,A6,fA,D2]
theorem ALv(a:Bp)(p:Int):sQ a p=some (E5 a p):=by grind[sQ,E5,Dw,AB,BW,DZ,CB,A6,AZF,fA,D2]
theorem PO(a:Bp)(p:Int):(E5 a p).Data.length<=a.Data.length:=by grind[E5]
theorem V3(h:Eu a=true):(E5 a 20000).Data=a.Data:=by grind[DZ,fA,E5,List.take_of_length_le]
def C2(s:BY)(l:List Int):BY:=⟨E5 s.Log (l.getD 0 0),E5 s.DR (l.getD 1 0),E5 s.Odd (l.getD 2 0)⟩
theorem yZ(l:List Int)(i:Nat):ZQ l i=some (l.getD i 0):=by grind[ZQ,CB,BT,AB,CI]
theorem KO(s:BY)(l:List Int):eJ s l=some (C2 s l):=by unfold eJ C2;rw[show ZQ l 0=some (l.getD 0 0) from yZ l 0,show ZQ l 1=some (l.getD 1 0) from yZ l 1,show ZQ l 2=some (l.getD 2 0) from yZ l 2];simp only[AB,ANu]
theorem Aac(l:List Int):List.take (List.replicate (Int.toNat 3) 0).length l++List.drop l.length (List.replicate (Int.toNat 3) 0)=[l.getD 0 0,l.getD 1 0,l.getD 2 0]:=by
 match l with
 | []=>rfl| [a]=>rfl| [a,b]=>rfl|a::b::c::m=>simp[List.getD]
theorem eU(s:BY)(l:List Int):sR s l=some (C2 s l):=by unfold sR C2 be;rw[Aac,show at? [l.getD 0 0,l.getD 1 0,l.getD 2 0] 0=some (l.getD 0 0) from rfl,show at? [l.getD 0 0,l.getD 1 0,l.getD 2 0] 1=some (l.getD 1 0) from rfl,show at? [l.getD 0 0,l.getD 1 0,l.getD 2 0] 2=some (l.getD 2 0) from rfl];simp only[AB,ALv]
theorem KX(a:CS e)(l:List Int):(C2 e.Ac l).Log.Data.length<=1048576/\(C2 e.Ac l).DR.Data.length<=1048576/\(C2 e.Ac l).Odd.Data.length<=1048576:=
 ⟨Ax (PO _ _) a.log,Ax (PO _ _) a.even,Ax (PO _ _) a.odd⟩
theorem Xw(g:Jv w)(l:List Int):∃n,Rz w l=some n/\mB w l=some n:=by have a:=g.KF;have ⟨n,q,h⟩:=Xc (C2 w.Ay.Ac l);have ⟨j,y,B⟩:=KX a l;have ⟨c,e,_⟩:=AZ6 j y B h;unfold Rz mB;simp only[Ed a,RJ a,AB,KO,eU,c,e];cases DC w.Ay;exact⟨_,rfl,rfl⟩;cases (HM (C2 w.Ay.Ac l) n q).2<;>exact⟨_,rfl,rfl⟩
def AVN(e:Ai)(r r':AF×Int×Bool)(u:Int):Bool:=
 DC e&&((r.2.2&&(r.2.1==e.Seq&&(u==(e.Ac.Log.Data.length:Int)&&OS r.1 (Di e.Laid e.BG).1)))&&(r'.2.2&&(r'.2.1==w64 (e.Seq-(e.Laid.length:Int))&&OS r'.1 e.BG)))
theorem AEx{e:Ai}(a:CS e):∃b,ZR e=some b/\YK e=some b:=by
 have ⟨n,q,h⟩:=Xc (C2 e.Ac [20000,20000,20000]);have ⟨H,q',E⟩:=Xc (C2 e.Ac []);have ⟨c,S,X⟩:=KX a [20000,20000,20000];have ⟨m1,m2,m3⟩:=KX a [];have ⟨I,J,y⟩:=recovered c h;have ⟨s1,L,B⟩:=recovered m1 E;have O:=WI c h;have Q:=sv c h;have j:=(Io e.Laid a.Dt).1;unfold ZR YK R3 JS Au;simp only[Ed a,RJ a,AB];cases g:DC e with
 |false=>exact⟨_,rfl,rfl⟩|true=>
  have G:Eu e.Ac.Log=true:=by have:=(DM g).2.1;unfold Ek at this;grind
  have ee:(C2 e.Ac [20000,20000,20000]).Log.Data=e.Ac.Log.Data:=V3 G;simp only[QN a.Dt a.laid,mu a.Dt a.laid,KO,eU,I,J,s1,L,O,Q,AB,AW,Mf y j,U5 y j,Mf B a.Dt,U5 B a.Dt,ee];generalize MA (C2 e.Ac [20000,20000,20000]) n q=r;generalize MA (C2 e.Ac []) H q'=r';generalize QR (C2 e.Ac [20000,20000,20000]) n q=u;simp only[bne];refine⟨AVN e r r' u,?_,?_⟩<;>unfold AVN<;>rw[g]<;>cases r.2.2<;>cases (r.2.1==e.Seq)<;>cases (u==(e.Ac.Log.Data.length:Int))<;>cases OS r.1 (Di e.Laid e.BG).1<;>cases r'.2.2<;>cases (r'.2.1==w64 (e.Seq-(e.Laid.length:Int)))<;>cases OS r'.1 e.BG<;>rfl
theorem AON(a:Int):0<=iB a 255/\iB a 255<=255:=by unfold iB;have e:(BitVec.ofInt IntKind.i64.bits 255).toNat=255:=rfl;grind[BitVec.toNat_and,BitVec.ofInt,Nat.and_le_right,WR]
theorem AS7(s:List UInt8):AOy s=some (decide ((s.length:Int)>1048576)):=rfl
def Bm(c:AP):Prop:=0<=c.i_/\c.i_<=c.b_.length/\c.b_.length<=1048576
theorem Acv{s:List UInt8}(a:s.length<=1048576):∃c,AIi s=some c/\Bm c:=by unfold AIi;refine H4 (n:=s.length) (λi (v:Int)=>(v,(i:Int))) (λ_ _=>True) Bm (by omega) ?_ trivial;intro L i v _ hi e;unfold ABi jw ABh;simp only[AW,dec_lt];rcases AV i s.length with h|h;rw[brT h,BV,BT h,AB,Bh h];split;exact e _ trivial h;exact⟨_,rfl,by simp,by simp,a⟩;rw[brF,CI];exact⟨_,rfl,by simp,by simp,a⟩
theorem uF(j:Bm c):∃r,Yj c=some r/\0<=r.1/\r.1<=255/\Bm r.2:=by have ⟨a,g,e⟩:=j;unfold Yj jy;rw[BV];have ⟨i,hi⟩:=AX a;split;rename_i h;rw[hi,BT (by omega),AB,AW];have:=AON (w64 (iB (Xs (EJ (w64 (w64 (c.h_*6364136223846793005)+1442695040888963407)) 33) (EJ (w64 (w64 (c.h_*6364136223846793005)+1442695040888963407)) 45)) 255+w64 (↑(UInt8.toNat c.b_[i]):Int)));refine⟨_,rfl,this.1,this.2,?_⟩;rw[A6 (n:=(i:Int)+1)];exact⟨by dsimp only;omega,by dsimp only;omega,e⟩;rw[AW];have:=AON (Xs (EJ (w64 (w64 (c.h_*6364136223846793005)+1442695040888963407)) 33) (EJ (w64 (w64 (c.h_*6364136223846793005)+1442695040888963407)) 45));exact⟨_,rfl,this.1,this.2,a,g,e⟩
theorem pG{a:Int}(c:0<=a)(e:0<n):0<=Int.tmod a n/\Int.tmod a n<n:=by rw[Int.tmod_eq_emod_of_nonneg c];exact⟨Int.emod_nonneg _ (by omega),Int.emod_lt_of_pos _ e⟩
theorem CC(q:Bm c)(n:Int):∃r,B7 c n=some r/\0<=r.1/\(n<=0->r.1=0)/\(0<n->r.1<n)/\Bm r.2:=by unfold B7;rw[BV];by_cases y:n<=0;rw[AY y];exact⟨_,rfl,by simp,by simp,by omega,q⟩;rw[Aa y,BV];split;have ⟨r,e,S,h2,h3⟩:=uF q;rw[e,AB,DX];have:=pG S (show 0<n by omega);grind;have ⟨g,J,X,Z,E⟩:=uF q;have ⟨h,L,Y,b2,G⟩:=uF E;have ⟨j,O,a3,b3,H⟩:=uF G;have ⟨B,Q,a4,b4,I⟩:=uF H;rw[J,AB,L,AB,O,AB,Q,AB,DX];rw[A6 (n:=g.1*16777216),A6 (n:=h.1*65536),A6 (n:=j.1*256)];rw[A6 (n:=g.1*16777216+h.1*65536),A6 (n:=g.1*16777216+h.1*65536+j.1*256),A6 (n:=g.1*16777216+h.1*65536+j.1*256+B.1)];have:=pG (a:=g.1*16777216+h.1*65536+j.1*256+B.1) (by omega) (show 0<n by omega);exact⟨_,rfl,this.1,by omega,λ_=>this.2,I⟩
theorem Mg(a:Bm c)(n:Int):∃r,KB c n=some r/\Bm r.2:=by have ⟨r,e,_,_,_,h⟩:=CC a n;unfold KB;rw[e,AB];exact⟨_,rfl,h⟩
theorem IE(a:Bm c){l:List Int}(g:l≠[]):∃r,Nr c l=some r/\Bm r.2/\r.1∈l:=by
 unfold Nr;have B:0<l.length:=by cases l with|nil=>exact absurd rfl g|cons=>simp
 have ⟨r,e,h,j,q,y⟩:=CC a (l.length:Int);grind[Int.eq_ofNat_of_zero_le,AB,BT,List.getElem_mem]
def R5(r:Ad):Prop:=r.Ca<=5/\r.CD<=4/\r.Rest<=3/\r.AZ.length<=3/\∀x∈r.AZ,x<=13
theorem AHf(e:Bm c):∃r,ri c=some r/\r.1.AZ.length<=3/\(EG r.1=true/\R5 r.1)/\Bm r.2:=by unfold ri;have ⟨r1,j,X,Y,a,g⟩:=CC e 5;have ⟨r2,e2,a2,b2,B,Z⟩:=CC g 9;have ⟨r3,e3,a3,b3,E,c3⟩:=CC Z 6;have ⟨r4,e4,a4,b4,G,c4⟩:=CC c3 5;have ⟨r5,e5,a5,b5,H,c5⟩:=CC c4 4;have ⟨r6,e6,a6,b6,I,c6⟩:=CC c5 4;have ⟨r7,e7,a7,b7,J,c7⟩:=CC c6 4;have ⟨r8,e8,a8,b8,O,c8⟩:=CC c7 3;have ⟨q,e9,a9,b9,d9,c9⟩:=CC c8 3;simp only[j,e2,e3,e4,e5,e6,e7,e8,e9,AB];have a:=a (by omega);have B:=B (by omega);have E:=E (by omega);have G:=G (by omega);have H:=H (by omega);have I:=I (by omega);have J:=J (by omega);have O:=O (by omega);have h9:=d9 (by omega);have ⟨n,hn⟩:=AX (show 0<=1+q.1 by omega);refine H4 (n:=n) (λi (v:AP×Ad)=>((i:Int),v.1,v.2)) (λi v=>Bm v.1/\∃ss:List Int,v.2=⟨ss,w64 (1+r1.1),w64 (2+r2.1),w64 (1+r3.1),w64 (1+r4.1),w64 (1+r5.1),r6.1,w64 (1+r7.1),w64 (1+r8.1)⟩/\ss.length=i/\∀x∈ss,2<=x/\x<=13) _ (by omega) ?_ (v:=(q.2,_)) ⟨c9,[],rfl,rfl,by simp⟩;rintro L i ⟨c,r⟩ ⟨e,ss,Q,hs,hx⟩ hi S;unfold ABk ABj;dsimp only at e Q S ⊢;subst Q;rw[A6 (n:=1+q.1),hn,dec_lt];rcases AV i n with h|h;have ⟨y,j,X,Y,a,g⟩:=CC e 12;have a:=a (by omega);rw[brT h,j,AB,DX,Bh h];refine S (_,_) ⟨g,_,rfl,by simp[hs],?_⟩ h;grind[List.mem_singleton,A6];rw[bFJ];grind[EG,R5,B6,List.all_eq_true,A6]
def Nk(h:AF):Prop:=-9223372036854775808<=h.Now/\h.Now<9223372036854775808
def ALK(r:Ad)(n:Nat)(h:AF):Prop:=h.AI.length<=h.AQ.AZ.length/\h.AI.length<=r.AZ.length/\h.AQ.AZ.length<=1048576/\h.AG.length<=n/\h.BM.length<=n/\h.BI.length<=3/\(∀c∈h.AI,E3 c)/\1<=h.AI.length/\Nk h
theorem AN0(g:r.AZ.length<=3)(a:EG r=true):∃x,rG r=some x/\ALK r 0 x.1:=by have c:=Ow (r:=r) (by omega);have e:=CU a;refine⟨_,nR (by omega),?_⟩;unfold ALK;refine⟨?_,?_,c.EI,?_,?_,?_,c.EX,?_,?_⟩<;>(unfold E4;rw[AY a])<;>simp[Nk]<;>omega
theorem AVf(l:List AR)(c:l.length<2 ^ 62)(n:Int):∃i,Yl l n=some i/\(i<0\/∃k:Nat,i=k/\k<l.length):=by unfold Yl;refine H4 (n:=l.length) (λi (_:Unit)=>(i:Int)) (λ_ _=>True) _ (by omega) ?_ (v:=()) trivial;intro L i _ _ hi a;unfold jz HH;rw[dec_lt];rcases AV i l.length with h|h;rw[brT h,BT h,AB,Be,Bh h];split;grind;exact a () trivial h;grind[decide_eq_false,CI,AW]
theorem AEh(hc:Bm c)(r:Ad)(now:Int):∃x,ABl c r now=some x/\Bm x.2:=by
 have ⟨r1,S,a1,b1,d1,I⟩:=CC hc 12;have ⟨r2,X,a2,b2,d2,J⟩:=CC I (r.AZ.length:Int);have ⟨r3,Y,a3,b3,d3,L⟩:=CC J r.BL;have ⟨r4,Z,a4,b4,d4,O⟩:=CC L r.Cj;have ⟨r5,e5,a5,b5,d5,Q⟩:=CC O 40;have ⟨r6,e6,a6,b6,d6,E⟩:=CC Q r.Cr;have H:∀x:AP×AR,Bm x.1->∃y,He x=some y/\Bm y.2:=by rintro⟨c,p⟩ h;exact⟨_,rfl,h⟩
 have B:∀x:AP×AR,Bm x.1->∃y,UU r x=some y/\Bm y.2:=by rintro⟨c,p⟩ h;unfold UU;have ⟨o,eo,a⟩:=Mg h 4;dsimp only;rw[eo,AB,Be,AW];split;have ⟨q,eq,_,_,_,e⟩:=CC a (r.AZ.length:Int);rw[eq,AB,AW];exact H _ e;exact H _ a
 have G:∀x:AP×AR,Bm x.1->∃y,Yk r now x=some y/\Bm y.2:=by rintro⟨c,p⟩ h;unfold Yk;have ⟨o,eo,a⟩:=Mg h 3;dsimp only;rw[eo,AB,Be,AW];split;have ⟨q,eq,_,_,_,e⟩:=CC a (w64 (now+r.CD));rw[eq,AB,AW];exact B _ e;exact B _ a
 unfold ABl;simp only[S,X,Y,Z,e5,e6,AB,Cy,Kx,Lc,Ky,Kz,KG,K0,K1,FP,Mk,Db,Be,AW];split;have ⟨q,eq,_,_,_,e⟩:=CC E (w64 (now+1));have ⟨o,eo,a⟩:=Mg e 3;rw[eq,AB,eo,AB];split;have ⟨q',g,_,_,_,j⟩:=CC a (w64 (w64 (now+r.Rest)+1));rw[g,AB];exact G _ j;exact G _ a;exact B _ E
theorem AVg{p:AR}(c:h.AG.length<=1000)(e:h.AI.length<=h.AQ.AZ.length)(j:h.AQ.AZ.length<=1048576):∃b,AIj h p=some b:=by
 unfold AIj;simp only[Az,Cy,Kx,Lc,Ky,Kz,KG,K0,K1,FP,Mk];have q:(h.AG).length=h.AG.length:=by simp
 rw[DX,DX,DX,DX,DX,DX];have ⟨r,h,_⟩:=H4 (F:=j6 h p) (n:=h.AI.length) (λi (_:Unit)=>(i:Int)) (λ_ _=>True) (λ_=>True) (by omega) (by intro L i v _ hi a;unfold j6 EZ;rw[dec_lt];rcases AV i h.AI.length with g|g;have ea:=Q0 (l:=[]++h.AG++[p]) (by simp;omega) (i:Int);have eb:=Q2 (l:=[]++h.AG++[p]) (by simp;omega) (i:Int);rw[brT g,BT (show i<h.AQ.AZ.length by omega),AB,ea,AB,eb,AB,Be,Bh g];split;exact⟨_,rfl,trivial⟩;exact a () trivial g;rw[bFJ];exact⟨_,rfl,trivial⟩) (v:=()) trivial;exact⟨r,h⟩
theorem AN1{l:List AR}(e:l.length<=1000)(p:AR):∃r,Wb l p=some r/\r.length<=l.length+1:=by
 unfold Wb be;have ⟨i,ei,hi⟩:=AVf l (by omega) p.Id;rw[ei,AB,DX,BV];split;grind[BT,AB];refine H4 (n:=l.length) (λi (_:Unit)=>(i:Int)) (λ_ _=>True) _ (by omega) ?_ (v:=()) trivial;intro L i _ _ hi c;have a:∃r,UX l p (i:Int)=some r/\r.length<=l.length+1:=by grind[UX,Cy,Kx,Lc,Ky,Kz,KG,K0,K1,FP,Mk,Int.toNat_natCast,List.length_take,D2,lim,List.length_cons,List.length_nil,List.length_append,List.length_drop]
 unfold Ym UW;rw[dec_lt];rcases AV i l.length with h|h;rw[brT h,BT h,AB,AW,BV,Bh h,AW];split;exact c () trivial h;exact a;rw[bFJ,brJ];exact a
theorem AbF(q:r.AZ.length<2 ^ 62){l:List AR}(y:l.length<=400){k:Nat}(j:k<r.AZ.length)(now x:Int):∃c,AIk r l k now x=some c/\E3 c:=by unfold AIk;have ⟨ps,ep,B⟩:∃ps,AFD l (k:Int)=some ps/\ps.length<=400:=⟨_,VU (by omega) _,by unfold G7;rw[Ir];have:=B8 (OA (k:Int)) l;omega⟩;rw[TQ,AB,ep,AB];have ⟨c,g,a⟩:=H4 (F:=j8 r l (k:Int) now x ps) (n:=ps.length) (λi (v:A2)=>((i:Int),v)) (λi v=>DQ v) (λc=>E3 c) (by omega) (by intro L i v e hi G;unfold j8 ABm be;dsimp only;rw[dec_lt];rcases AV i ps.length with h|h;have ey:=Nf e ps[i];have E:=ar e ps[i];grind[decide_eq_true,CB,BT,AB,Bh];have ea:=Q0 (l:=l) (by omega) (k:Int);have eb:=Q2 (l:=l) (by omega) (k:Int);have eq:=O7 q (l:=l) (by omega) (k:Int) now;rw[bFJ,ea,AB,eb,AB,BT j,AB,N6,AB,eq,AB];refine⟨_,rfl,?_,e⟩;unfold EF;rw[Ir];have:=B8 (Mn r (k:Int) now) l;omega) (v:=⟨List.replicate 9 []⟩) Tr;exact⟨c,g,a⟩
theorem AVX{l:List Int}(a:l.length<=1048576)(n:Int):∃r,Tz l n=some r/\r.length<=l.length+1:=by grind[Tz,Ti,D2,lim,AB,Be,List.length_cons,List.length_nil]
def AAQ(h:AF):Prop:=h.AG.length<=400/\h.AI.length<=1000/\h.AQ.AZ.length<=1048576/\Bt h/\1<=h.AI.length/\h.BM.length<=2000/\h.BI.length<=1000/\Nk h
theorem AZr(E:Bm c):∃x,AIl c=some x/\AAQ x.1/\Bm x.2:=by
 unfold AIl;have ⟨r,er,hr,⟨hrb,_⟩,cr⟩:=AHf E;have ⟨h,eh,B⟩:=AN0 hr hrb;have ⟨a,ea,a1,a2,a3,ca⟩:=CC cr 20;have ⟨b,eb,b1,b2,b3,cb⟩:=CC ca 9;have hb:=b3 (by omega);rw[er,AB,eh,AB,ea,AB,eb,AB];have ⟨n,hn⟩:=AX b1;have post:∀x:AP×AF,Bm x.1->ALK r.1 100 x.2->∃y,kC r x=some y/\AAQ y.1/\Bm y.2:=by rintro⟨c,h⟩ E B;unfold kC;dsimp only at E B ⊢;have hcn:=B.2.1;refine H4 (n:=h.AI.length) (λi (v:AP×AF)=>((i:Int),v.1,v.2)) (λi v=>Bm v.1/\v.2.AI.length=h.AI.length/\v.2.AG.length<=100/\v.2.BM.length<=100+i/\v.2.AQ.AZ.length<=1048576/\v.2.BI.length<=3/\(∀c∈v.2.AI,E3 c)/\Nk v.2) _ (by omega) ?_ (v:=(c,h)) ⟨E,rfl,B.2.2.2.1,by have:=B.2.2.2.2.1;omega,B.2.2.1,B.2.2.2.2.2.1,B.2.2.2.2.2.2.1,B.2.2.2.2.2.2.2.2⟩;rintro L i ⟨c,Q⟩ ⟨J,O,Z,g4,S,g6,X,Y⟩ hi G;dsimp only at J O Z g4 S g6 X Y G ⊢;unfold ABp Rq ABn be;dsimp only;rw[O,dec_lt];rcases AV i h.AI.length with g|g;have ⟨x,ex,_,_,_,cx⟩:=CC J 6;have ⟨m,em,hm⟩:=AbF (r:=r.1) (by omega) (l:=Q.AG) (by omega) (k:=i) (by omega) Q.Now x.1;have ⟨o,eo,co⟩:=Mg cx 2;have ⟨t,et,ht⟩:=AVX (l:=Q.BM) (by omega) (i:Int);rw[brT g,ex,AB,em,AB,BT (by omega),AB,AB,eo,AB,Be,et,AB,AW,AW,Bh g];split;exact G (_,_) ⟨co,by simp[O],Z,by dsimp only;omega,S,g6,λc E=>by rcases Cb E with E|rfl;exact X c E;exact hm,Y⟩ g;exact G (_,_) ⟨co,by simp[O],Z,by dsimp only;omega,S,g6,λc E=>by rcases Cb E with E|rfl;exact X c E;exact hm,Y⟩ g;rw[bFJ];refine H4 (n:=Q.BI.length) (λj (v:AP×AF)=>((j:Int),v.1,v.2)) (λj v=>Bm v.1/\v.2.BI.length=Q.BI.length/\AAQ v.2) _ (by omega) ?_ (v:=(c,Q)) ⟨J,rfl,by dsimp only;omega,by dsimp only;omega,S,⟨S,by dsimp only;omega,by dsimp only;omega,X,by dsimp only;omega,by dsimp only;omega⟩,by have:=B.2.2.2.2.2.2.2.1;dsimp only;omega,by dsimp only;omega,by dsimp only;omega,Y⟩;rintro L j ⟨c,h2⟩ ⟨H,I,e⟩ hj G;dsimp only at H I e G ⊢;unfold ABq Rq Fv be;dsimp only;rw[I,dec_lt];rcases AV j Q.BI.length with k|k;have ⟨o,eo,co⟩:=Mg H 3;have ⟨x,ex,_,_,_,cx⟩:=CC co (r.1.AZ.length:Int);rw[brT k,eo,AB,Be,ex,AB,BT (by omega),AB,AB,AW,AW,Bh k];split;exact G (_,_) ⟨cx,by simp[I],e.1,e.2.1,e.2.2.1,⟨e.2.2.2.1.EI,e.2.2.2.1.Cc,e.2.2.2.1.EH,e.2.2.2.1.EX,e.2.2.2.1.todo,by simp only[An];exact e.2.2.2.1.Gs⟩,e.2.2.2.2.1,e.2.2.2.2.2.1,by simp only[An];exact e.2.2.2.2.2.2.1,e.2.2.2.2.2.2.2⟩ k;exact G (_,_) ⟨co,I,e⟩ k;rw[bFJ];exact⟨_,rfl,e,H⟩
 refine H4 (n:=n) (λi (v:Int×AP×AF)=>(v.1,(i:Int),v.2.1,v.2.2)) (λi v=>Bm v.2.1/\ALK r.1 i v.2.2) _ (by omega) ?_ (v:=(0,b.2,_)) ⟨cb,B.1,B.2.1,B.2.2.1,B.2.2.2.1,B.2.2.2.2.1,B.2.2.2.2.2.1,B.2.2.2.2.2.2.1,B.2.2.2.2.2.2.2.1,by have:=a3 (by omega);unfold Nk;dsimp only;omega⟩;rintro L i ⟨t,c,h⟩ ⟨J,O⟩ hi G;dsimp only at J O G ⊢;have ⟨H,I,e,k4,k5,k6,k7⟩:=O;unfold ABo;dsimp only;rw[hn,dec_lt];rcases AV i n with g|g;have ⟨p,ep,cp⟩:=AEh J r.1 h.Now;have ⟨x1,e1,_,_,_,c1⟩:=CC cp 12;have ⟨x2,e2,_,_,_,c2⟩:=CC c1 2;have ⟨x3,e3,_,_,_,c3⟩:=CC c2 4;rw[brT g,ep,AB,e1,AB,e2,AB,e3,AB,N7,AB,Be,AW,AW];have j3:∀(q:AR) (b:Bool),∃y,UY L t (i:Int) h x3 q b=some y/\AAQ y.1/\Bm y.2:=by intro q b;unfold UY j9;have ⟨l,el,hl⟩:=AN1 (l:=h.AG) (by omega) q;rw[Be,AW,el,AB,AW,Bh g];split;exact G (_,_,_) ⟨c3,H,I,e,by dsimp only;omega,by dsimp only;omega,k6,k7⟩ g;exact G (_,_,_) ⟨c3,H,I,e,by dsimp only;omega,by dsimp only;omega,k6,k7⟩ g
 have j2:∀q:AR,∃y,Yo r L t (i:Int) h x3 q=some y/\AAQ y.1/\Bm y.2:=by
  intro q;unfold Yo;have ⟨a,ea,_⟩:=AVf h.AG (by omega) q.Id;have eb:=JL (l:=h.AG) (by omega) q.Ab;have ⟨d,ed⟩:=AVg (h:=h) (p:=q) (by omega) H e;simp only[ea,eb,ed,AB,Be,AW]
  repeat' split
  all_goals exact j3 _ _
 split<;>exact j2 _;rw[bFJ];exact post _ J ⟨H,I,e,by dsimp only;omega,by dsimp only;omega,k6,k7⟩
theorem AXh(n:Int):((toB n).toNat:Int)=n % 256:=by
 have h:=fW n;have e:IntKind.u8.wrap n=n % 256:=by
  have a:IntKind.u8.wrap n=n % 2 ^ 8:=by simp[IntKind.wrap,IntKind.signed,IntKind.bits]
  rw[a];rfl
 unfold toB;rw[e]at h ⊢;rw[UInt8.toNat_ofNat'];omega
theorem zh(a:Nat)(k:Nat)(c:k<=63):EJ (a:Int) (k:Int)=((a / 2 ^ k:Nat):Int):=by
 unfold EJ;have e:min ((k:Int)).toNat IntKind.i64.bits=k:=by simp[IntKind.bits];omega
 rw[e,Int.fdiv_eq_ediv_of_nonneg _ (Int.le_of_lt (Int.pow_pos (by omega)))];rw[Int.natCast_ediv];rfl
theorem ATk(g:okN n)(e:okN m){x y:List UInt8}(h:pN n++x=pN m++y):n=m/\x=y:=by
 have c:=AHL g x;rw[h,AHL e y]at c;simp only[AE,Prod.mk.injEq]at c;have a:n=m:=by have:=g.1;have:=e.1;omega
 subst a;exact⟨rfl,List.append_cancel_left h⟩
theorem nj:∀{l' l:List Int} {t:List UInt8},(∀n∈l',okN n)->(∀n∈l,okN n)->pL l'++t=pL l->∃r,l=l'++r/\t=pL r
 | [],l,t,_,_,h=>⟨l,rfl,h⟩|n::l',[],t,a,_,h=>by have:=nn (a n (BQ ..));have e:pL (n::l')=pN n++pL l':=rfl;rw[e]at h;have:=congrArg List.length h;simp only[AH]at this;have g:(pL []).length=0:=rfl;omega
 |n::l',m::l,t,a,j,h=>by have e:pL (n::l')=pN n++pL l':=rfl;have g:pL (m::l)=pN m++pL l:=rfl;rw[e,g,BF]at h;have ⟨q1,q⟩:=ATk (a n (BQ ..)) (j m (BQ ..)) h;have ⟨r,y,B⟩:=nj (λk c=>a k (Am _ c)) (λk c=>j k (Am _ c)) q;exact⟨r,by rw[q1,y];rfl,B⟩
theorem nW(q:C0 h=true):∀n∈EC h,okN n:=by
 have e:=O3 q;have I:=JX q;have hR:=CU e.rules;have y:=SZ h.AQ;rw[VG];intro n a;unfold okN;simp only[Ae,Br,List.mem_flatMap,List.mem_map]at a;rcases a with rfl|a|rfl|rfl|rfl|⟨p,L,a⟩|⟨c,E,rfl⟩|rfl|a|⟨j,H,rfl⟩;omega
 .unfold Hu at a;simp only[Ae,Br,D7,or_false]at a;rcases a with (rfl|rfl|rfl|rfl|rfl|rfl|rfl|rfl)|a;all_goals first|omega|skip
  have:=hR.2.2.2.2.2.1 n a;omega
 omega;omega;omega;obtain⟨i,hi,rfl⟩:=DF.1 L;have O:=Fc (e.par i hi);unfold Qv at a;simp only[Ae,D7,or_false]at a;have G:=A6 (n:=h.AG[i].Bs+1) (by omega) (by omega);rw[G]at a;omega;obtain⟨i,hi,rfl⟩:=DF.1 E;have B:i<h.AQ.AZ.length:=by rw[<-e.EH];exact hi
 have hD:h.AQ.AZ.getD i 0=h.AQ.AZ[i]:=by simp[List.getD,B]
 have g:=(e.cab i hi).2;have Q:=hR.2.2.2.2.2.1 _ (Aw B);rw[hD]at g;omega;have:=e.todo;have:=e.EI;omega;obtain⟨i,hi,rfl⟩:=DF.1 a;have g:=LM.1 I.2.2.2.2.2.2.1 i hi;unfold Tl at g;have J:=e.EH;have:=e.EI;rw[Ch hi,AD,B6,A6]at g;omega;have:=e.job j H;unfold up;rw[A6];omega
theorem XE(l:List AR):(l.flatMap Qv).length=10*l.length:=by
 induction l with
 |nil=>rfl|cons p l a=>rw[List.flatMap_cons,AH,a,AK];show 10+_=_;omega
theorem AMO{r':Ad}(h:Hu r=Hu r'):r=r':=by have ⟨s,a,b,c,d,e,f,g,i⟩:=r;have ⟨I,j,q,y,B,E,G,g',H⟩:=r';unfold Hu at h;simp only[A8,Az,B3]at h;obtain⟨rfl,rfl,rfl,rfl,rfl,rfl,rfl,rfl,rfl⟩:=h;rfl
theorem Zt(j:C0 g=true)(q:C0 h=true){t:List Int}(a:EC g++t=EC h):t=[]:=by have rg:=O3 j;have rh:=O3 q;rw[VG,VG]at a;simp only[A8,BF,B3]at a;have ⟨E,a⟩:=a;have ⟨e,a⟩:=EM a (by omega);have hR:=AMO e;simp only[B3]at a;have ⟨_,_,G,a⟩:=a;have ⟨_,a⟩:=EM a (by rw[XE,XE];omega);have ⟨_,a⟩:=EM a (by rw[Af,Af,rg.EH,rh.EH,hR]);simp only[B3]at a;have ⟨H,a⟩:=a;have ⟨_,a⟩:=EM a (by omega);have y:=congrArg List.length a;rw[AH,Af,Af]at y;have c:=rg.P7;have B:=rh.P7;rw[hR]at c;exact GD.1 (by omega)
theorem ATP(c:C0 h=true):16<=(EC h).length:=by have a:=O3 c;have e:=SZ h.AQ;have g:=a.EI;have j:=a.EH;have q:=a.P7;have y:=a.AcK;rw[VG];simp only[AK,AH,Af,XE];omega
theorem AEO(a:C0 h=true)(c:inB q 0 1000000=true):Cu h q=four ((JR (pL (q::EC h)):Nat):Int)++pL (q::EC h):=by unfold Cu;rw[AY ⟨a,c⟩]
theorem AEP{s:List UInt8}(a:Cu h q=s)(e:s≠[]):C0 h=true/\inB q 0 1000000=true:=by unfold Cu at a;split at a;rename_i c;exact c;exact(e a.symm).elim
theorem aR(c:C0 h=true)(e:inB q 0 1000000=true):∀n∈q::EC h,okN n:=by intro n a;rw[B6]at e;rcases Ae.1 a with rfl|a;unfold okN;omega;exact nW c n a
theorem Lw(a:C0 h=true)(c:inB q 0 1000000=true):(Cu h q).drop 4=pL (q::EC h)/\20<=(Cu h q).length:=by rw[AEO a c];have e:=ATi (aR a c);have g:=ATP a;refine⟨List.drop_left' (Hg _),?_⟩;rw[AH,Hg];simp only[AK]at e;omega
theorem tz(a:C0 h=true)(j:Bt h)(g:inB q 0 1000000=true):eE (Cu h q)=some (h,q,true):=by
 have G:=Fz h q;have ⟨c,E⟩:=Lw a g;have ⟨r,_,e,B⟩:=K9 (s:=Cu h q) (by omega);rw[e,B.all h q a j ?_ rfl (by omega)];have y:(pL (q::EC h)).length<=(Cu h q).length:=by rw[<-c,BD];omega
 rw[c];exact zR _ _ (aR a g) (by omega)
theorem AVM{h:AF}(g:C0 h=true){q:Int}(B:inB q 0 1000000=true){m:Nat}(X:m<(Cu h q).length):∃r,eE ((Cu h q).take m)=some r/\r.2.2=false:=by
 have S:=Fz h q;have ⟨r,_,e,I⟩:=K9 (s:=(Cu h q).take m) (by rw[Ag];omega);refine⟨r,e,?_⟩;cases y:r.2.2 with
 |false=>rfl|true=>
  exfalso;have ⟨O,Q,c⟩:=I.yes y;by_cases a:(Cu h q).take m=[]
  rw[a]at e;have:eE []=some (Jd,0,false):=rfl;rw[this]at e;cases e;cases y;have ⟨j,E⟩:=AEP c a;have ⟨s1,Y⟩:=Lw j E;have ⟨J,Z⟩:=Lw g B;have H:pL (r.2.1::EC r.1)++(Cu h q).drop m=pL (q::EC h):=by
   rw[<-s1,<-J,c];have G:4<=m:=by have:=congrArg List.length c;rw[Ag]at this;omega
   conv=>rhs;rw[<-CL m (Cu h q)]
   rw[E6 (by rw[Ag];omega)]
  have ⟨t,t1,t2⟩:=nj (aR j E) (aR g B) H;simp only[A8,B3]at t1;have:=Zt j g t1.2.symm;rw[this]at t2;have:=congrArg List.length t2;rw[BD]at this;have L:(pL []).length=0:=rfl;omega
theorem AaR{b:Type}{P:b->Prop}{c:Prop} [Decidable c] {x y:AA b} (a:∃r,x=some r/\P r) (e:∃r,y=some r/\P r):∃r,(if c then x else y)=some r/\P r:=by grind
theorem AbC{c:AP}(e:Bm c){r:Ad}(j:r.AZ.length<=1048576)(now:Int):∃x,AIt c r now=some x/\Bm x.2:=by
 have g:∀x:AP×AR,Bm x.1->∃y,Yz x=some y/\Bm y.2:=by
  rintro⟨c,p⟩ h;unfold Yz He;dsimp only at h ⊢;have ⟨a,ea,ca,_⟩:=IE h (l:=[-1,0,2,5,7,1000000,1000001,9223372036854775807,-9223372036854775808]) (by simp);have ⟨b,eb,_,_,_,cb⟩:=CC ca 24;have ⟨d,ed,cd,_⟩:=IE cb (l:=[0,999,1000,-1]) (by simp);rw[ea,AB,eb,AB];simp only[Be,ed,AB,AW];refine AaR ⟨_,rfl,cd⟩ ?_;iterate 9 refine AaR ⟨_,rfl,cb⟩ ?_
  exact⟨_,rfl,cb⟩
 unfold AIt;rw[JM (by omega),AB];have ⟨x,ex,cx⟩:=AEh e r now;cases EG r with
 |true=>rw[CB,ex,AB,AW];exact g _ cx|false=>rw[brJ];exact g _ e
theorem AEk(E:Bm c):∃x,AB2 c=some x/\Bm x.2:=by unfold AB2;have ⟨H,j,_,_,_,a⟩:=CC E 6;have ⟨I,q,_,_,_,e⟩:=CC a 6;have ⟨G,y,_,_,_,g⟩:=CC e 8;have ⟨J,B,_,_,_,h⟩:=CC g (w64 (G.1+1));rw[j,AB,q,AB,y,AB,B,AB];exact⟨_,rfl,h⟩
theorem AXe(g:Bm c):∃x,AIu c=some x/\Bm x.2:=by unfold AIu Pq;have ⟨B,j,a⟩:=AEk g;have ⟨E,q,e,_⟩:=IE a (l:=[-1,0,60,61,9223372036854775807,-9223372036854775808]) (by simp);have ⟨G,y,_,_,_,h⟩:=CC e 16;grind[AB,Be,AW]
theorem AEi(J:Bm c):∃x,AB3 c=some x/\Bm x.2:=by
 unfold AB3 Rt;have ⟨L,y,_,_,_,a⟩:=CC J 4;have ⟨O,B,_,_,_,e⟩:=CC a 20;have ⟨Q,E,_,_,_,g⟩:=CC e 12;have ⟨S,G,_,_,_,h⟩:=CC g 6;have ⟨X,H,j,_⟩:=IE h (l:=[-1,0,5,7,1000,1000001,9223372036854775807,-9223372036854775808]) (by simp);have ⟨Y,I,_,_,_,q⟩:=CC j 30;rw[y,AB,B,AB,E,AB,G,AB,H,AB,I,AB];simp only[Be,AW]
 repeat' split
 all_goals exact⟨_,rfl,q⟩
theorem uG{l:List Ar}(a:l.length<=1000)(e:Ar):∃x,AIv l e=some x/\x.1.length<=l.length+1:=by
 have hlim:=Gk;have c:(put ltE e l).length=l.length+1:=GU ..;unfold AIv kQ;rw[Xh (by omega),AB,Th _ (by omega),AB,BW,Th _ (by omega),AB];simp only[AW,BW,Q3 (show l.length<=lim by omega),AB,Be]
 repeat' split
 all_goals first|exact⟨_,rfl,by omega⟩|exact⟨_,rfl,by dsimp only;omega⟩
theorem AEj(hc:Bm c):∃x,AB4 c=some x/\x.1.length<=20/\Bm x.2:=by
 have G:∀(n:Nat) (c:AP),n<=20->Bm c->∃y,Y0 ((n:Int),c)=some y/\y.1.length<=20/\Bm y.2:=by
  intro n c hn h;unfold Y0;refine H4 (n:=n) (λi (v:List Ar×AP)=>(v.1,(i:Int),v.2)) (λi v=>v.1.length<=i/\Bm v.2) _ (by omega) ?_ (v:=([],c)) ⟨Aj _,h⟩;rintro L i ⟨l,c⟩ ⟨Y,a⟩ hi g;dsimp only at Y a g ⊢;unfold AB5 kR Pr;dsimp only;rcases AV i n with h|h;have ⟨x,ex,cx⟩:=AEi a;rw[bnT h,ex,AB,BV,Bh h,AW,AW];split;have ⟨q,eq,e⟩:=uG (l:=l) (by omega) {x.1 with Id:=w64 (100+(i:Int))};rw[eq,AB];exact g (_,_) ⟨Ax e (by omega),cx⟩ h;have ⟨q,eq,e⟩:=uG (l:=l) (by omega) x.1;rw[eq,AB];exact g (_,_) ⟨Ax e (by omega),cx⟩ h;obtain rfl:i=n:=by omega
  rw[bnJ];exact⟨_,rfl,by dsimp only;omega,a⟩
 unfold AB4;have ⟨r1,Q,I,b1,B,J⟩:=CC hc 9;have ⟨r2,S,j⟩:=Mg J 12;have ⟨r3,X,a3,b3,E,O⟩:=CC j 4;have B:=B (by omega);have E:=E (by omega);have ⟨n1,Z⟩:=AX I;have ⟨H,h3⟩:=AX a3;rw[Q,AB,S,AB,Be];split;rw[X,AB,AW,A6,h3,show (10:Int)+(H:Int)=((10+H:Nat):Int) from by omega];exact G _ _ (by omega) O;rw[AW,Z];exact G _ _ (by omega) j
theorem AXd{c:AP}(E:Bm c):∃x,AIw c=some x/\x.1.length<=1000/\Bm x.2:=by
 have hlim:=Gk;unfold AIw Pr be;have ⟨e,j,Q,h⟩:=AEj E;have ⟨g,q,_,_,_,a⟩:=CC h 10;have ⟨X,L,J⟩:=AEi a;rw[j,AB,q,AB];cases O:(g.1==0) with
 |true=>grind[CB,AB,D2,ADU,AW,List.length_append,List.length_cons,List.length_nil]
 |false=>
  rw[CI];cases B:(g.1==1) with
  |true=>rw[CB,BV];split;rename_i S;have ⟨x,G⟩:=Gp (l:=e.1) (i:=0) (by omega) (by omega);have ⟨y,H⟩:=Gp (l:=e.1) (i:=1) (by omega) (by omega);have ⟨z,I⟩:=Gp (l:=List.set e.1 (Int.toNat 0) y) (i:=1) (by omega) (by rw[An];omega);simp only[G,H,I,AB,AW];exact⟨_,rfl,by simp only[An];omega,a⟩;rw[AW];exact⟨_,rfl,by dsimp only;omega,a⟩
  |false=>rw[brJ];exact⟨_,rfl,by dsimp only;omega,a⟩
theorem AVh(H:Bm c):∃x,AB6 c=some x/\Bm x.2:=by
 unfold AB6 Y1;have ⟨I,q,_,_,_,e⟩:=CC H 24;have ⟨J,y,_,_,_,g⟩:=CC e 12;have ⟨L,B,_,_,_,a⟩:=CC g 20;have ⟨O,E,h,_⟩:=IE a (l:=[0,-1,-9,1000008,1000009,9223372036854775807,-9223372036854775808]) (by simp);have ⟨Q,G,j,_⟩:=IE a (l:=[0,999,1000,-1]) (by simp);rw[q,AB,y,AB,B,AB];simp only[Be,AW,E,G,AB]
 repeat' split
 all_goals first|exact⟨_,rfl,h⟩|exact⟨_,rfl,j⟩|exact⟨_,rfl,a⟩
theorem AXg(E:Bm c):∃x,AIx c=some x/\x.1.length<=8/\Bm x.2:=by
 unfold AIx;have ⟨H,y,j,_,a,q⟩:=CC E 8;have a:=a (by omega);have ⟨n,G⟩:=AX j;rw[y,AB];refine H4 (n:=n) (λi (v:List Bf×AP)=>(v.1,(i:Int),v.2)) (λi v=>v.1.length<=i/\Bm v.2) _ (by omega) ?_ (v:=([],H.2)) ⟨Aj _,q⟩;rintro L i ⟨l,c⟩ ⟨B,e⟩ hi g;dsimp only at B e g ⊢;unfold AB8 AB7;dsimp only;rw[G];rcases AV i n with h|h;have ⟨x,ex,cx⟩:=AVh e;rw[bnT h,ex,AB,DX,Bh h];exact g (_,_) ⟨by rw[AH,AK,AT];omega,cx⟩ h;obtain rfl:i=n:=by omega
 rw[bnJ];grind
theorem AN8{w:A2}(a:w.Av.length=9)(p:Bf):(PF w p).1.Av.length=9:=by grind[PF,Xr,List.length_set]
theorem AVt{w:A2}(a:w.Av.flatten.length<=10)(p:Bf):(PF w p).1.Av.flatten.length<=10:=by unfold PF;split;rename_i h;exact(ET.1 h.2.2).few;exact a
theorem AEl(H:Bm c):∃x,AB9 c=some x/\DQ x.1/\(x.1.Av.length=9/\x.1.Av.flatten.length<=10)/\Bm x.2:=by
 have I:∀(l:List Bf) (c:AP),l.length<=100->Bm c->∃y,Y2 ⟨List.replicate 9 []⟩ (l,c)=some y/\DQ y.1/\(y.1.Av.length=9/\y.1.Av.flatten.length<=10)/\Bm y.2:=by
  intro l c Q h;unfold Y2;refine H4 (n:=l.length) (λi (v:A2)=>((i:Int),v)) (λ_ v=>DQ v/\v.Av.length=9/\v.Av.flatten.length<=10) _ (by omega) ?_ (v:=⟨List.replicate 9 []⟩) ⟨Tr,by simp,by simp⟩;rintro L i w ⟨e,g⟩ hi j;unfold ACC ACA be;dsimp only;rcases AV i l.length with a|a;rw[bnT a,BT a,AB,AB,Nf e,AB,Bh a (by omega)];exact j _ ⟨ar e _,AN8 g.1 _,AVt g.2 _⟩ a;obtain rfl:i=l.length:=by omega
  rw[bnJ];exact⟨_,rfl,e,g,h⟩
 unfold AB9;have ⟨J,E,O,q⟩:=AXg H;have ⟨S,G,B⟩:=Mg q 10;rw[TQ,AB,E,AB,G,AB,Be];split;refine H4 (n:=10) (λi (v:List Bf)=>(v,(i:Int))) (λi v=>v.length<=8+i) _ (by omega) ?_ (v:=J.1) (by omega);intro L i l e hi j;unfold ACB;dsimp only;rw[BV];rcases AV i 10 with h|h;rw[ifP,DX,Bh h];exact j _ (by rw[AH,AK,AT];omega) h;rw[ifN,AW];exact I _ _ (by omega) B;grind[AW]
theorem AXf{c:AP}(Z:Bm c):∃x,AIy c=some x/\DQ x.1/\Bm x.2:=by
 unfold AIy Uf be;have ⟨e,O,j,⟨h9,X⟩,J⟩:=AEl Z;have ⟨E,Q,_,_,_,h⟩:=CC J 10;rw[O,AB,Q,AB];cases h0:(E.1==0) with
 |true=>
  have ⟨I,y,a3,_,g,q⟩:=CC h 9;have g:=g (by omega);have ⟨k,hk⟩:=AX a3;have a:k<e.1.Av.length:=by omega
  have ⟨G,S,L⟩:=AVh q;have hsl:=Ly a;have h2:=j.2;have hh:Y.OR k 0 [U.sl (C.st 5) (e.1.Av[k]++[G.1])].length [(k,0)]:=⟨rfl,⟨Aj _,by simp⟩,trivial⟩;have B:=mJ a (e.1.Av[k]++[G.1]);rw[CB,y,AB,hk,BT a,AB,AB,S,AB,DX,AB,AB,Ah,D2 hh,AW];refine⟨_,rfl,⟨by rw[An];omega,?_⟩,L⟩;rw[AH,AK,AT]at B;show (e.1.Av.set k (e.1.Av[k]++[G.1])).flatten.length<=_;omega
 |false=>
  rw[CI];cases h1:(E.1==1) with
  |true=>have ⟨I,y,a3,_,g,q⟩:=CC h 10;have g:=g (by omega);rw[CB,y,AB,D2 ⟨by omega,by omega⟩,AW];refine⟨_,rfl,⟨?_,?_⟩,q⟩;rw[Ag,BD];omega;dsimp only;have H:=congrArg (λs=>s.flatten.length) (CL (I.1.toNat-0) e.1.Av);simp only[D6,AH]at H;have:=j.2;rw[CX];omega
  |false=>
   rw[CI];cases H:(E.1==2) with
   |true=>rw[CB,DX,AW];refine⟨_,rfl,⟨?_,?_⟩,h⟩;rw[AH,AK,AT];omega;rw[D6];simpa using j.2
   |false=>rw[brJ];exact⟨_,rfl,j,h⟩
theorem AVe(H:Bm c):∃x,AIz c=some x/\E3 x.1/\Bm x.2:=by unfold AIz kS;have ⟨O,E,B⟩:=Mg H 4;rw[E,AB,Be];split;have ⟨I,h,a⟩:=AXe B;have ⟨J,j,G,e⟩:=AXd a;have ⟨L,q,y,g⟩:=AXf e;rw[h,AB,j,AB,q,AB];exact⟨_,rfl,⟨by dsimp only;omega,y⟩,g⟩;unfold AOz;have ⟨I,h,a⟩:=AEk B;have ⟨J,j,G,e⟩:=AEj a;have ⟨L,q,y,_,g⟩:=AEl e;rw[h,AB,j,AB,q,AB,AB,Be,AW,AW];split<;>exact⟨_,rfl,⟨by dsimp only;omega,y⟩,g⟩
theorem AEa{c:AP}(X:Bm c):∃x,ACD c=some x/\Bt x.1/\Bm x.2/\Nk x.1:=by
 unfold ACD Fv be;have ⟨h,O,⟨b1,b2,b3,Y,b4,b5,b6,nk⟩,J⟩:=AZr X;have ⟨r2,Q,L,Z⟩:=IE J (l:=[-1,0,1,3,1000000,1000001,1000002,9223372036854775807,-9223372036854775808]) (by simp);have ⟨G,S,_,_,_,e⟩:=CC L 40;have ⟨a,j,f3,g,B,E⟩:=Y;rw[O,AB,Q,AB,S,AB];cases k0:(G.1==0) with
 |true=>rw[CB,AW];refine⟨_,rfl,⟨a,j,f3,g,B,E⟩,e,?_⟩;simp only[Ae,D7,or_false]at Z;unfold Nk;dsimp only;omega
 |false=>
 rw[CI];cases k1:(G.1==1) with
 |true=>rw[CB,AW];exact⟨_,rfl,⟨a,j,f3,g,B,E⟩,e,nk⟩|false=>
 rw[CI];cases k2:(G.1==2) with
 |true=>rw[CB,DX,AW];exact⟨_,rfl,⟨a,j,f3,g,by rw[AH,AK,AT];omega,E⟩,e,nk⟩
 |false=>
 rw[CI];cases k3:(G.1==3) with
 |true=>rw[CB,DX,AW];exact⟨_,rfl,⟨a,j,f3,g,B,by rw[AH,AK,AT];omega⟩,e,nk⟩
 |false=>
 rw[CI];cases k4:(G.1==4) with
 |true=>have ⟨p,ep,cp⟩:=AbC e a h.1.Now;rw[CB,ep,AB,DX,AW];exact⟨_,rfl,⟨a,by rw[AH,AK,AT];omega,f3,g,B,E⟩,cp,nk⟩
 |false=>
 rw[CI];cases k5:(G.1==5) with
 |true=>rw[CB,BV];split;have ⟨x,H⟩:=Gp (l:=h.1.AG) (i:=0) (by omega) (by omega);simp only[H,AB,AW];exact⟨_,rfl,⟨a,by simp only[An];exact j,f3,g,B,E⟩,e,nk⟩;rw[AW];exact⟨_,rfl,⟨a,j,f3,g,B,E⟩,e,nk⟩
 |false=>
 rw[CI];cases k6:(G.1==6) with
 |true=>rw[CB,A6,D2 ⟨by omega,by omega⟩,AW];refine⟨_,rfl,⟨a,j,?_,?_,B,E⟩,e,nk⟩;rw[Ag,BD];omega;intro x H;exact g x (List.mem_of_mem_drop (List.mem_of_mem_take H))
 |false=>
 rw[CI];cases k7:(G.1==7) with
 |true=>
  have ⟨q,eq,hq,cq⟩:=AVe e;have ⟨x,H⟩:=Gp (l:=h.1.AI) (i:=0) (by omega) (by omega);rw[CB,eq,AB,H,AB,AB,AW];refine⟨_,rfl,⟨a,j,by simp only[An];exact f3,?_,B,E⟩,cq,nk⟩;intro y I;rcases Cb I with I|rfl;exact g y I;exact hq
 |false=>
 rw[CI];cases k8:(G.1==8) with
 |true=>rw[CB,AW];exact⟨_,rfl,⟨a,j,f3,g,B,E⟩,e,nk⟩|false=>
 rw[CI];cases k9:(G.1==9) with
 |true=>rw[CB,BV];split;have ⟨x,H⟩:=Gp (l:=h.1.AG) (i:=0) (by omega) (by omega);have ⟨y,I⟩:=Gp (l:=h.1.AG) (i:=1) (by omega) (by omega);simp only[H,I,AB,AW];exact⟨_,rfl,⟨a,by simp only[An];exact j,f3,g,B,E⟩,e,nk⟩;rw[AW];exact⟨_,rfl,⟨a,j,f3,g,B,E⟩,e,nk⟩
 |false=>rw[brJ];exact⟨_,rfl,⟨a,j,f3,g,B,E⟩,e,nk⟩
theorem AHd(a:Bm c):∃x,ACD c=some x/\Bt x.1/\Bm x.2:=by grind[AEa]
theorem Xf:eE []=some (Jd,0,false):=rfl
theorem AVS(hc:Bm c)(hh:Bt h):∃x,Yp c h=some x/\Bm x.2:=by
 unfold Yp;have ⟨x1,O,_,_,_,H⟩:=CC hc 12;have j4:∀x:AP×Bo,KC x=some (x.2,x.1):=λ_=>rfl;have j5:∀(v x:Int) (y:Int×AP) (b:Bool),Bm y.2->∃z,Ys h v x y b=some z/\Bm z.2:=by
  intro v x y b a;unfold Ys;have ⟨G,e,_,_,_,g⟩:=CC a x;have ⟨z2,j,_,_,_,q⟩:=CC g 4;have ⟨z3,f3,_,_,_,B⟩:=CC a (if 1>h.AQ.Da then 1 else h.AQ.Da);simp only[e,j,f3,N6,AB,Be]
  repeat' split
  all_goals first|exact⟨_,rfl,q⟩|exact⟨_,rfl,a⟩|exact⟨_,rfl,B⟩
 have j3:∀(v x:Int) (y:Int×AP) (b:Bool),Bm y.2->∃z,Rr h v x y b=some z/\Bm z.2:=by
  intro v x y b a;unfold Rr;have ⟨G,e,_,_,_,g⟩:=CC a 14;have ⟨z2,j,_,_,_,q⟩:=CC g x;have ⟨z3,f3,_,_,_,B⟩:=CC q (if 1>h.AQ.BL then 1 else h.AQ.BL);have ⟨z4,Q,_,_,_,Y⟩:=CC B (if 1>h.AQ.Cj then 1 else h.AQ.Cj);have ⟨z5,S,I⟩:=Mg Y 3;have ⟨z6,X,_,_,_,Z⟩:=CC I x;simp only[e,j,f3,Q,S,X,N6,AB,Be,AW,Cy,Kx,Lc,Ky,Kz,KG,K0,K1,Mk,j4]
  repeat' split
  all_goals first|exact⟨_,rfl,Z⟩|exact⟨_,rfl,I⟩|exact⟨_,rfl,a⟩|exact j5 _ _ _ _ a
 have E:∀x:Int×AP,Bm x.2->∃z,Yr h x=some z/\Bm z.2:=by
  rintro⟨v,c⟩ a;unfold Yr;have ⟨G,e,_,_,_,g⟩:=CC a 12;simp only[e,N6,AB,Be,AW]
  repeat' split
  all_goals exact j3 _ _ _ _ g
 have hp:=hh.Cc;rw[O,AB,BV];split;rename_i h0;have ⟨o,eo,co⟩:=Mg H 3;rw[eo,AB,AW];unfold Yq;dsimp only;rw[Be];split;have ⟨G,e,J,_,L,g⟩:=CC co (h.AG.length:Int);have ⟨k,hk⟩:=AX J;have:=L (by omega);rw[e,AB,hk,BT (by omega),AB,AW];exact E _ g;rw[AW];exact E _ co;rw[AW];unfold Yq;dsimp only;rw[brJ];exact E _ H
theorem AVT(e:Bm c)(g:Bt h):∃x,AIm c h=some x/\Bm x.2:=by unfold AIm;have ⟨q,eq,cq⟩:=AVS e g;have ⟨a,ea,ca,_⟩:=IE cq (l:=([-1,0,1,4,7,61,1000,9999,10000,9223372036854775807,-9223372036854775808]:List Int)) (by simp);have ⟨b,eb,_,_,_,cb⟩:=CC ca 20;have j:∀x:AP×Bo,KC x=some (x.2,x.1):=λ_=>rfl;simp only[eq,ea,eb,AB,Be,AW,j];grind
theorem AYN(j:Bm c)(y:Bt h):∃x,rj c h=some x/\Bm x.2:=by
 have G:=y.Cc;unfold rj;have B:([4,4,5]:List Int)≠[]:=by simp
 refine H4 (n:=h.AG.length) (λi (v:AP)=>((i:Int),v)) (λ_ v=>Bm v) (λx:Bo×AP=>Bm x.2) (by omega) ?_ j;intro L i v e hi H;unfold ABy;dsimp only;rcases AV i h.AG.length with a|q;rw[bnT a,BT a,AB,Be];have g:∀x:Bool×AP,Bm x.2->∃r,Yv h L i x=some r/\Bm r.2:=by rintro⟨b,w⟩ E;unfold Yv;have ⟨z,ez,cz,_⟩:=IE E B;grind[BT,AB,Bh,Be]
 have ⟨o,eo,co⟩:=Mg e 3;rw[eo,AB];simp only[AW];split;exact g _ co;exact g _ e;obtain rfl:i=h.AG.length:=by omega
 rw[bnJ];unfold ABx;have ⟨o,eo,co⟩:=Mg e 4;have ⟨z,ez,_,_,_,cz⟩:=CC co (if 1>(h.BI.length:Int) then 1 else (h.BI.length:Int));rw[eo,AB,Be,N6,AB,ez,AB];split;exact⟨_,rfl,co⟩;exact⟨_,rfl,cz⟩
theorem ALK.fit(c:EG r=true)(e:ALK r 0 h):Bt h:=by have ⟨g,j,a3,a4,q,y,a,B,E⟩:=e;have G:=CU c;exact⟨a3,by omega,by omega,a,by omega,by omega⟩
theorem dU(j:Bm c)(n:Nat)(q:n<=1000):∃x,eA c (n:Int)=some x/\x.1.length=n/\Bm x.2:=by unfold eA;refine H4 (n:=n) (λi (v:List UInt8×AP)=>(v.1,(i:Int),v.2)) (λi v=>v.1.length=i/\Bm v.2) _ (by omega) ?_ (v:=([],c)) ⟨rfl,j⟩;rintro L i ⟨l,c⟩ ⟨e,a⟩ hi h;unfold ABs ABr;dsimp only at e a h ⊢;rw[dec_lt];rcases AV i n with g|g;have ⟨x,ex,_,_,cx⟩:=uF a;rw[brT g,ex,AB,DX,Bh g];exact h (_,_) ⟨by simp[e],cx⟩ g;rw[bFJ];exact⟨_,rfl,by dsimp only;omega,a⟩
theorem AZt(h:Bm c)(G:l.length<=1048576):∃x,eB c l=some x/\x.1.length<=l.length+2/\Bm x.2:=by
 unfold eB be;rw[Vj,BV];split;have ⟨x,ex,H,cx⟩:=dU h 2 (by omega);rw[show (2:Int)=((2:Nat):Int) from rfl,ex,AB];exact⟨_,rfl,by dsimp only;omega,cx⟩;rename_i g;have j:0<l.length:=by cases l with|nil=>exact absurd rfl g|cons=>simp
 have ⟨a,ea,q,_,a3,ca⟩:=CC h (l.length:Int);have ⟨b,eb,B,_,E,cb⟩:=CC ca 255;have:=a3 (by omega);have ⟨k,y⟩:=AX q;have e:k<l.length:=by omega
 rw[ea,AB,y,BT e,AB,AB,eb,AB,AB,AB];exact⟨_,rfl,by simp,cb⟩
theorem AbG(j:Bm c){l:List (List UInt8)}(y:l≠[]):∃r,AJw c l=some r/\Bm r.2/\r.1∈l:=by
 unfold AJw;have ⟨a,ea,h,_,a3,ca⟩:=CC j (l.length:Int);have g:0<l.length:=by cases l with|nil=>exact absurd rfl y|cons=>simp
 have:=a3 (by omega);have ⟨k,q⟩:=AX h;have e:k<l.length:=by omega
 rw[ea,AB,q,BT e,AB];exact⟨_,rfl,ca,Aw e⟩
def Sml(B:Nat)(s:BY):Prop:=s.Log.Data.length<=B/\s.DR.Data.length<=B/\s.Odd.Data.length<=B
theorem Sml.pu3(h:Sml B s)(c:a.Data.length<=B)(k:Int):Sml B (WV s k a):=by unfold WV;split;exact⟨h.1,c,h.2.2⟩;exact⟨h.1,h.2.1,c⟩
theorem Sml.sl3(h:Sml B s)(k:Int):(CM s k).Data.length<=B:=by unfold CM;split;exact h.2.1;exact h.2.2
theorem AAa(hB:20000<=B)(h:a.Data.length<=B)(s:List UInt8):(FL a s).1.Data.length<=B:=by grind[FL,List.length_append]
theorem pY(a:CS e)(p:Int):∃r,Kl e p=some r/\CS r.1/\r.1.Laid=e.Laid/\(Sml 30000 e.Ac->Sml 30000 r.1.Ac):=by
 have ⟨r,h,_,c⟩:=pZ a p;refine⟨r,h,c,?_⟩;have ⟨n,g,y,B⟩:=PX e.Ac;have ⟨r',j,E,_⟩:=Dz e.Ac n;have q:=Te a (w64 (1-n));unfold Kl Ps Ny at h;simp only[Ha a,Ed a,Db,AB,AW,g,EK,Me,JZ a.Dt,OE (Ax (Fz e.BG e.Seq) (by omega)),NY,j,O5 a.log,WH,Be]at h
 repeat' split at h
 all_goals cases h
 all_goals refine⟨rfl,λhS=>?_⟩
 all_goals first|exact hS|exact hS.pu3 (by simp) _|exact hS.pu3 (AAa (by omega) (hS.sl3 _) _) _|exact hS.pu3 (by rw[QP];exact hS.sl3 _) _|exact Sml.pu3 (s:=⟨(On e.Ac.Log _).1,e.Ac.DR,e.Ac.Odd⟩) ⟨Ax (tx _ _) hS.1,hS.2⟩ (hS.sl3 _) _
theorem qH(j:CS e)(p:Int):∃r,ZD e p=some r/\CS r.1/\r.1.Laid=e.Laid/\(Sml 30000 e.Ac->Sml 30000 r.1.Ac):=by
 unfold ZD;rw[Ha j,AB];refine Lf (λx:Int×Ai=>0<=x.1/\x.1<=4/\CS x.2/\x.2.Laid=e.Laid/\(Sml 30000 e.Ac->Sml 30000 x.2.Ac)) (λx=>(4-x.1).toNat) (λr:Ai×Bool=>CS r.1/\r.1.Laid=e.Laid/\(Sml 30000 e.Ac->Sml 30000 r.1.Ac)) ?_ big (0,e) ⟨by omega,by omega,j,rfl,id⟩ (FM _ (by simp));rintro L ⟨i,x⟩ ⟨y,B,c,a,hS⟩ q;unfold MK lF;dsimp only at y B c a hS q ⊢;rw[N7,AB,BV];by_cases g:i<(if p<4 then p else 4);have J:i<4:=by split at g<;>omega
 rw[AY g];have ⟨r,E,G,H,I⟩:=pY c i;rw[E,AB,BW];cases r.2 with
 |false=>exact⟨(x,false),rfl,c,a,hS⟩|true=>rw[CB,A6];exact q (i+1,r.1) ⟨by omega,by omega,G,H.trans a,λh=>I (hS h)⟩ (by dsimp only;omega)
 rw[Aa g,AW];exact⟨(x,true),rfl,c,a,hS⟩
theorem Acu(a:Bm c):∃x,AJu c=some x/\x.1.length<=20000/\Bm x.2:=by
 unfold AJu;refine Lf (λv:List UInt8=>1<=v.length/\v.length<=40000) (λv=>40000-v.length) (λx:List UInt8×AP=>x.1.length<=20000/\Bm x.2) ?_ big [48,49,50,51,52,53,54,55,56,57] (by simp) (FM _ (by simp));rintro L v ⟨g,h⟩ e;unfold ACh;rw[BV];split;rw[DX];exact e _ ⟨by simp;omega,by simp;omega⟩ (by simp;omega);rw[AW];unfold ACg;have ⟨z,ez,cz,mz⟩:=IE a (l:=[19989,19990,20000]) (by simp);have:0<=z.1/\z.1<=20000:=by simp only[Ae,D7,or_false]at mz;omega
 rw[ez,AB,DX];exact⟨_,rfl,by simp only[Ag];omega,cz⟩
theorem AS9{q:Bo}(h:(IJ e q).2=0):(IJ e q).1.Ac.Log.Safe=e.Ac.Log.Safe/\(IJ e q).1.Ac.Log.Data=e.Ac.Log.Data++frB (e.Seq+1) (Fs q):=by have a:=V2 h;have c:=DM a.2.1;have ew:w64 (e.Seq+1)=e.Seq+1:=A6 (by omega) (by omega);unfold IJ at h ⊢;rw[ew]at h ⊢;unfold FL at h ⊢;grind
theorem AAp(c:1<=n)(e:n<=60):LF n=(⟨⟨n,0,0,n,0⟩,[],⟨List.replicate 9 []⟩⟩,true):=by
 have a:Fi ⟨n,0,0,n,0⟩=true:=by unfold Fi;simp only[AD,B6,beq_iff_eq,show w64 (0+0)=0 from rfl];rw[A6];omega
 unfold LF SI;rw[AY a];rfl
theorem ADE(a:EG r=true):(E4 r).2=true/\RH (E4 r).1:=by have e:=CU a;unfold E4;rw[AY a];refine⟨rfl,⟨a,by dsimp only;omega,by dsimp only;omega,by simp,⟨by simp,by simp,.nil,.nil⟩,?_,rfl,?_,?_⟩⟩;intro i hi;simp only[Af]at hi;simp only[List.getElem_map];have c:=e.2.2.2.2.2.1 _ (Aw hi);rw[AAp c.1 c.2];refine⟨rfl,rfl,?_,rfl,rfl,?_,?_⟩;simp[BB,AU hi];unfold Fi;simp only[AD,B6,beq_iff_eq,show w64 (0+0)=0 from rfl];rw[A6];omega;show (0:Int)<=_;omega;unfold Km;rw[B2];intro x g;rw[(List.mem_replicate.1 g).2,B6,Af,A6];omega;dsimp only;rw[List.length_replicate];omega
theorem NM(h:Eu a=true)(c:a.Safe=a.Data.length)(p:Int):E5 a p=a:=by
 have e:fA a p=a.Data.length:=by unfold fA;split;exact c;split<;>omega
 unfold E5;rw[AY h,e,Ah,Cd,<-c]
structure AOC(r:Ad)(e:Ai):Prop where
 nwN:Iq r=(e,true)
 nwH:e.BG=(E4 r).1
 nwR:e.BG.AQ=r
 nwB:C0 e.BG=true
 nwF:CS e
 nwO:DC e=true
 nwQ:e.Seq=0
 nwL:e.Laid=[]
 nwG:e.Ac.Log=⟨[],0⟩
 nwV:e.Ac.DR=⟨Cu e.BG 0,((Cu e.BG 0).length:Int)⟩
 nwD:e.Ac.Odd=⟨[],0⟩
 nwC:Qd e.Ac=true
 nwS:Oa e.Ac 0 (e.BG,0,true)
 nwT:MA e.Ac 0 (e.BG,0,true)=(e.BG,0,true)
 nwU:QR e.Ac 0 (e.BG,0,true)=0
 nwX:HM e.Ac 0 (e.BG,0,true)=(e,true)
 nwY:∀l,C2 e.Ac l=e.Ac
theorem Aah(I:r.AZ.length<=1048576)(E:EG r=true):∃e,AOC r e:=by
 have fe:=We I;have ⟨S,J⟩:=ADE E;have a:=GH.2 J;have G:=Ow I;have hT:=Fz (E4 r).1 0;have hE:Iq r=(⟨(E4 r).1,⟨⟨[],0⟩,⟨Cu (E4 r).1 0,((Cu (E4 r).1 0).length:Int)⟩,⟨[],0⟩⟩,0,[]⟩,true):=by unfold Iq;rw[AY S]
 have hR:(E4 r).1.AQ=r:=by unfold E4;rw[AY E]
 rw[hE]at fe;have hread:=tz a G (q:=0) rfl;have ⟨h,H⟩:∃h,h=(E4 r).1:=⟨_,rfl⟩;rw[<-H]at hE hR a G hT fe hread J;generalize hTT:Cu h 0=T at hE hT fe hread;have hA:Eu ⟨T,(T.length:Int)⟩=true:=DZ.2 ⟨by dsimp only;omega,by dsimp only;omega⟩;have y:Eu ⟨[],0⟩=true:=rfl;have g:Ek ⟨⟨[],0⟩,⟨T,(T.length:Int)⟩,⟨[],0⟩⟩=true:=by unfold Ek;simp[hA,y]
 have B:DC ⟨h,⟨⟨[],0⟩,⟨T,(T.length:Int)⟩,⟨[],0⟩⟩,0,[]⟩=true:=by unfold DC;simp only[a,g,Co];rfl
 have L:MJ ⟨⟨[],0⟩,⟨T,(T.length:Int)⟩,⟨[],0⟩⟩ 0=some (h,0,true):=by unfold MJ;rw[EK,AB,Dw,AB,show CM ⟨⟨[],0⟩,⟨T,(T.length:Int)⟩,⟨[],0⟩⟩ 0=⟨T,(T.length:Int)⟩ from rfl,hA,BW,CB,DX,Ah,Cd,hread,AB]
 have s1:MJ ⟨⟨[],0⟩,⟨T,(T.length:Int)⟩,⟨[],0⟩⟩ 1=some (Jd,0,false):=by unfold MJ;rw[EK,AB,Dw,AB,show CM ⟨⟨[],0⟩,⟨T,(T.length:Int)⟩,⟨[],0⟩⟩ 1=⟨[],0⟩ from rfl,y,BW,CB,DX,show List.take (Int.toNat 0) ([]:List UInt8)=[] from rfl,Xf,AB]
 have hN:Wc ⟨⟨[],0⟩,⟨T,(T.length:Int)⟩,⟨[],0⟩⟩=some 0:=by unfold Wc;rw[L,s1,AB,AB];unfold Yy Ue;simp[Be,AW]
 have ⟨n,q,R⟩:=Xc ⟨⟨[],0⟩,⟨T,(T.length:Int)⟩,⟨[],0⟩⟩;have O:n=0:=by have:=R.im;rw[hN]at this;exact(Option.some.inj this).symm
 subst O;have Q:q=(h,0,true):=by have:=R.ir;rw[L]at this;exact(Option.some.inj this).symm
 subst Q;have j:DW ([]:List UInt8)=[]:=GD.1 (by have:=NH [];simpa using this);have c:MA ⟨⟨[],0⟩,⟨T,(T.length:Int)⟩,⟨[],0⟩⟩ 0 (h,0,true)=(h,0,true):=by unfold MA;rw[AY ⟨g,by omega⟩,j];rfl
 have hused:QR ⟨⟨[],0⟩,⟨T,(T.length:Int)⟩,⟨[],0⟩⟩ 0 (h,0,true)=0:=by unfold QR;rw[AY ⟨g,by omega⟩,j];rfl
 have hcalm:Qd ⟨⟨[],0⟩,⟨T,(T.length:Int)⟩,⟨[],0⟩⟩=true:=by simp[Qd]
 have hboot:HM ⟨⟨[],0⟩,⟨T,(T.length:Int)⟩,⟨[],0⟩⟩ 0 (h,0,true)=(⟨h,⟨⟨[],0⟩,⟨T,(T.length:Int)⟩,⟨[],0⟩⟩,0,[]⟩,true):=by unfold HM;rw[c,hused,AY ⟨rfl,hcalm⟩];rfl
 have hfall:∀l,C2 ⟨⟨[],0⟩,⟨T,(T.length:Int)⟩,⟨[],0⟩⟩ l=⟨⟨[],0⟩,⟨T,(T.length:Int)⟩,⟨[],0⟩⟩:=by intro l;unfold C2;rw[NM y rfl,NM hA rfl,NM y rfl]
 exact⟨_,hE,H,hR,a,fe,B,rfl,rfl,rfl,by rw[hTT],rfl,hcalm,R,c,hused,hboot,hfall⟩
theorem de{c:BY}{a:Int}(h:CM s k=CM c a):GX s k=GX c a:=by unfold GX;rw[EK,EK,h]
def ADb(x y:AF×Int×Bool):Int:=if x.2.2=true then (if y.2.2=true/\¬x.2.1>=y.2.1 then 1 else 0) else if y.2.2=true then 1 else -1
theorem RV(e:GX s 0=some x)(g:GX s 1=some y):Kk s=some (ADb x y):=by unfold Kk Ud ADb;rw[e,g,AB,AB];cases a:x.2.2<;>cases c:y.2.2<;>simp[Be,AW,a,c];by_cases h:y.2.1<=x.2.1;simp[h];simp[h]
def Js(e:Ai)(k:Int)(a:Bp):Ai:={e with Ac:=WV e.Ac k a}
theorem z8{e:Ai}(a:CS e){p:Int}{r:Ai}(h:Kl e p=some (r,true)):DC e=true/\e.Laid=[]/\∃n,Kk e.Ac=some n/\(n=0\/n=1) /\
 ((p=0/\r=Js e (w64 (1-n)) ⟨[],0⟩)\/(p=1/\(FL (CM e.Ac (w64 (1-n))) (Cu e.BG e.Seq)).2=true/\r=Js e (w64 (1-n)) (FL (CM e.Ac (w64 (1-n))) (Cu e.BG e.Seq)).1) \/
  (p=2/\r=Js e (w64 (1-n)) (OF (CM e.Ac (w64 (1-n))))) \/
  (p≠0/\p≠1/\p≠2/\∃q,GX e.Ac n=some q/\(On e.Ac.Log (Xp q.2.1 0 (DW e.Ac.Log.Data))).2=true/\r={e with Ac:={e.Ac with Log:=(On e.Ac.Log (Xp q.2.1 0 (DW e.Ac.Log.Data))).1}})):=by
 have ⟨n,I,O,Q⟩:=PX e.Ac;have ⟨q,J,S,_⟩:=Dz e.Ac n;have L:=Te a (w64 (1-n));unfold Kl Ps Ny at h;simp only[Ha a,Ed a,Db,AB,AW,I]at h;have bad:∀x:Ai,(some (x,false):AA (Ai×Bool))=some (r,true)->False:=λx g=>by cases g
 cases E:DC e with
 |false=>rw[E,Ei,CB,CB]at h;exact(bad _ h).elim|true=>
 rw[E,B5,CI]at h;by_cases G:(e.Laid.length:Int)>0;rw[brT G,CB]at h;exact(bad _ h).elim;rw[brF G]at h;cases hi:inB p 0 3 with
 |false=>rw[hi,Ei,CB]at h;exact(bad _ h).elim|true=>
 rw[hi,B5,CI]at h;by_cases H:n<0;rw[brT H]at h;exact(bad _ h).elim;simp only[decide_eq_false H,CI,EK,AB,Me,AW,JZ a.Dt,OE (Ax (Fz e.BG e.Seq) (by omega)),NY,J,O5 a.log,WH,Ha a,BW,CB]at h;refine⟨rfl,GD.1 (by omega),n,I,by omega,?_⟩;cases j:p==0 with
 |true=>rw[j,CB]at h;cases h;exact .inl ⟨by simpa using j,rfl⟩
 |false=>
 rw[j,CI]at h;cases y:p==1 with
 |true=>
  rw[y,CB]at h;cases c:(FL (CM e.Ac (w64 (1-n))) (Cu e.BG e.Seq)).2 with
  |true=>rw[c,CB]at h;cases h;exact .inr (.inl ⟨by simpa using y,rfl,rfl⟩)
  |false=>rw[c,CI]at h;exact(bad _ h).elim
 |false=>
 rw[y,CI]at h;cases B:p==2 with
 |true=>rw[B,CB]at h;cases h;exact .inr (.inr (.inl ⟨by simpa using B,rfl⟩))
 |false=>
 rw[B,CI]at h;refine .inr (.inr (.inr ⟨by simpa using j,by simpa using y,by simpa using B,q,J,?_⟩));cases c:(On e.Ac.Log (Xp q.2.1 0 (DW e.Ac.Log.Data))).2 with
 |true=>rw[c,CB]at h;cases h;rw[SX];exact⟨rfl,rfl⟩
 |false=>rw[c,CI]at h;exact(bad _ h).elim
theorem rdI{r:AF×Int×Bool}(h:MJ s k=some r):GX s k=some r:=by have ⟨x,a,c,_⟩:=Dz s k;rw[a,<-c,h]
theorem AHM(h:CM s k=⟨T,0⟩)(hT:T.length<=20000):GX s k=some (Jd,0,false):=by refine rdI ?_;unfold MJ;rw[EK,AB,Dw,AB,h,DZ.2 ⟨by dsimp only;omega,by dsimp only;omega⟩,BW,CB,DX,show List.take (Int.toNat 0) T=[] from rfl,Xf,AB]
theorem AXM(a:C0 h=true)(c:Bt h)(e:inB q 0 1000000=true)(g:CM s k=⟨Cu h q,((Cu h q).length:Int)⟩):GX s k=some (h,q,true):=by have hT:=Fz h q;refine rdI ?_;unfold MJ;rw[EK,AB,Dw,AB,g,DZ.2 ⟨by dsimp only;omega,by dsimp only;omega⟩,BW,CB,DX,Ah,Cd,tz a c e,AB]
def Two(n k:Int):Prop:=n=0/\k=1\/n=1/\k=0
theorem Two.pu3(h:Two n k)(s:BY)(a:Bp):CM (WV s k a) k=a/\CM (WV s k a) n=CM s n/\(WV s k a).Log=s.Log:=by rcases h with ⟨rfl,rfl⟩|⟨rfl,rfl⟩<;>exact⟨rfl,rfl,rfl⟩
theorem Two.ot3(h:n=0\/n=1):Two n (w64 (1-n)):=by rcases h with rfl|rfl;exact .inl ⟨rfl,rfl⟩;exact .inr ⟨rfl,rfl⟩
theorem Two.nw3(h:Two n k)(g:GX s n=some x)(j:GX s k=some y) :
 (y.2.2=false->x.2.2=true->Kk s=some n)/\(x.2.2=true->y.2.2=true->x.2.1<y.2.1->Kk s=some k)/\(x.2.2=true->y.2.2=true->x.2.1<=y.2.1->Kk s=some n\/Kk s=some k):=by rcases h with ⟨rfl,rfl⟩|⟨rfl,rfl⟩;rw[RV g j];unfold ADb;refine⟨λa c=>by simp[a,c],λa c e=>by simp[a,c];omega,λa c e=>?_⟩;by_cases q:x.2.1>=y.2.1;left;simp[a,q];right;simp[a,c];omega;rw[RV j g];unfold ADb;refine⟨λa c=>by simp[a,c],λa c e=>by simp[a,c];omega,λa c e=>?_⟩;right;simp[a,c];omega
theorem Two.bd3(h:Two n k)(a:Kk s=some n)(e:GX s n=some x):x.2.2=true:=by
 have ⟨y,g,_⟩:=Dz s k;rcases h with ⟨rfl,rfl⟩|⟨rfl,rfl⟩;rw[RV e g]at a;unfold ADb at a;cases c:x.2.2 with|true=>rfl|false=>rw[c]at a;simp at a;split at a<;>omega
 rw[RV g e]at a;unfold ADb at a;cases c:x.2.2 with|true=>rfl|false=>rw[c]at a;simp at a;split at a<;>omega
theorem AYE{a g j:Ai}(he:CS e)(h1:CS a)(h2:CS g)(a0:Kl e 0=some (a,true))(a1:Kl a 1=some (g,true))(a2:Kl g 2=some (j,true)) :
 DC e=true/\e.Laid=[]/\∃n k x,Two n k/\Kk e.Ac=some n/\GX e.Ac n=some x/\x.2.2=true/\CM j.Ac n=CM e.Ac n/\CM j.Ac k=⟨Cu e.BG e.Seq,((Cu e.BG e.Seq).length:Int)⟩ /\
  j.Ac.Log=e.Ac.Log/\j.BG=e.BG/\j.Seq=e.Seq/\j.Laid=e.Laid:=by
 have hT:=Fz e.BG e.Seq;have ⟨b0,l0,n,Z,L,Q⟩:=z8 he a0;have tw:=Two.ot3 L;generalize w64 (1-n)=k at tw Q;have ⟨x,G,_⟩:=Dz e.Ac n;have q:=tw.bd3 Z G;have h:a=Js e k ⟨[],0⟩:=by rcases Q with c|c|c|c;exact c.2;exact absurd c.1 (by decide);exact absurd c.1 (by decide);exact absurd rfl c.1
 have ⟨b1,_,m,hm,hm2,S⟩:=z8 h1 a1;have p1:=tw.pu3 e.Ac ⟨[],0⟩;have em:m=n:=by have:=(tw.nw3 (s:=a.Ac) (x:=x) (y:=(Jd,0,false)) (by rw[h];exact(de p1.2.1).trans G) (by rw[h];exact AHM p1.1 (by simp))).1 rfl q;rw[hm]at this;exact Option.some.inj this
 subst em;have ek:w64 (1-m)=k:=by rcases tw with ⟨rfl,rfl⟩|⟨rfl,rfl⟩<;>rfl
 rw[ek]at S;have s1:CM a.Ac k=⟨[],0⟩:=by rw[h];exact p1.1
 have I:FL ⟨[],0⟩ (Cu a.BG a.Seq)=(⟨Cu e.BG e.Seq,0⟩,true):=by rw[h];unfold FL Js;rw[AY ⟨rfl,by simp;omega⟩];rfl
 have B:g=Js a k ⟨Cu e.BG e.Seq,0⟩:=by rcases S with c|c|c|c;exact absurd c.1 (by decide);rw[c.2.2,s1,I];exact absurd c.1 (by decide);exact absurd rfl c.2.1
 have ⟨b2,_,m',J,Y,X⟩:=z8 h2 a2;have p2:=tw.pu3 a.Ac ⟨Cu e.BG e.Seq,0⟩;have so:CM g.Ac m=CM e.Ac m:=by rw[B];refine p2.2.1.trans ?_;rw[h];exact p1.2.1
 have H:m'=m:=by have:=(tw.nw3 (s:=g.Ac) (x:=x) (y:=(Jd,0,false)) ((de so).trans G) (by rw[B];exact AHM p2.1 (by omega))).1 rfl q;rw[J]at this;exact Option.some.inj this
 subst H;rw[ek]at X;have s2:CM g.Ac k=⟨Cu e.BG e.Seq,0⟩:=by rw[B];exact p2.1
 have O:OF ⟨Cu e.BG e.Seq,0⟩=⟨Cu e.BG e.Seq,((Cu e.BG e.Seq).length:Int)⟩:=by unfold OF;rw[AY (DZ.2 ⟨by dsimp only;omega,by dsimp only;omega⟩)]
 have E:j=Js g k ⟨Cu e.BG e.Seq,((Cu e.BG e.Seq).length:Int)⟩:=by rcases X with c|c|c|c;exact absurd c.1 (by decide);exact absurd c.1 (by decide);rw[c.2,s2,O];exact absurd rfl c.2.2.1
 have p3:=tw.pu3 g.Ac ⟨Cu e.BG e.Seq,((Cu e.BG e.Seq).length:Int)⟩;refine⟨b0,l0,m',k,x,tw,Z,G,q,?_,?_,?_,?_,?_,?_⟩;rw[E];exact p3.2.1.trans so;rw[E];exact p3.1;rw[E];refine p3.2.2.trans ?_;rw[B];refine p2.2.2.trans ?_;rw[h];exact p1.2.2;rw[E,B,h];rfl;rw[E,B,h];rfl;rw[E,B,h];rfl
theorem ID(h:Ek s=true):Eu s.Log=true/\Eu s.DR=true/\Eu s.Odd=true:=by unfold Ek at h;simpa[AD] using h
theorem AbD(a:Bm c):∃x,AJ0 c=some x/\Bm x.2:=by
 unfold AJ0;have ⟨k,ek,_,_,_,ck⟩:=CC a 12;rw[ek,AB,Be];split;exact⟨_,rfl,ck⟩;rw[Be];split;have ⟨y,ey,_,cy⟩:=dU ck 60 (by omega);rw[show (60:Int)=((60:Nat):Int) from rfl,ey,AB];exact⟨_,rfl,cy⟩;rw[Be];split;have ⟨y,ey,_,cy⟩:=dU ck 61 (by omega);rw[show (61:Int)=((61:Nat):Int) from rfl,ey,AB];exact⟨_,rfl,cy⟩;have ⟨x,ex,g,_,h,cx⟩:=CC ck 6;have:=h (by omega);have ⟨m,j⟩:=AX g;have ⟨y,ey,_,cy⟩:=dU cx (m+1) (by omega);have e:w64 (1+x.1)=((m+1:Nat):Int):=by rw[A6];omega
 rw[ex,AB,e,ey,AB];exact⟨_,rfl,cy⟩
theorem AHe(j:Bm c):∃x,mC c=some x/\Bm x.2/\x.1.length<=4:=by unfold mC;have ⟨k,ek,y,_,B,ck⟩:=CC j 5;have:=B (by omega);have ⟨n,q⟩:=AX y;rw[ek,AB];refine H4 (n:=n) (λi (v:List Int×AP)=>(v.1,(i:Int),v.2)) (λi v=>v.1.length=i/\Bm v.2) (λx:List Int×AP=>Bm x.2/\x.1.length<=4) (by omega) ?_ (v:=([],k.2)) ⟨rfl,ck⟩;rintro L i ⟨l,c⟩ ⟨e,a⟩ hi h;unfold ACl ZS;dsimp only at e a h ⊢;rw[q,dec_lt];rcases AV i n with g|g;have ⟨x,ex,cx,_⟩:=IE a (l:=[0,1,2,5,30,-1,9223372036854775807,-9223372036854775808]) (by simp);rw[brT g,ex,AB,DX,Bh g];exact h (_,_) ⟨by simp[e],cx⟩ g;rw[bFJ];exact⟨_,rfl,a,by dsimp only;omega⟩
theorem AWQ{l:List Ck}(a:l.length<=1048576)(c:∀x∈l,x.Ids.length<=1048576):ACX l=some l:=by have hlim:=Gk;unfold ACX;refine(fv (λr=>[r]) some a 1 (by simp) (v0:=[]) ?_ ?_).trans (by simp);intro L i h v e;have g:=c _ (Aw h);unfold lT;dsimp only;rw[bnT h,BT h,AB,AB,DX,D2 (by simp at e ⊢;omega)];rfl;grind[lT,Pl,CI,AW]
theorem ALe(a:Jv w):ACY w=some w:=by have hlim:=Gk;have c:=a.done;unfold ACY;simp only[Ha a.KF,AB,AWQ a.AHO a.ids,D2 (show 0+w.K7.length<=lim by omega),Nh,Cy,Az]
def svF(w:CJ)(b:Ai×Bool):Int:=if DC w.Ay=true/\b.2=true then w64 (w64 (b.1.Seq-w.Ay.Seq)+w.Ay.Laid.length) else -1
def sT(w:CJ)(b:Ai×Bool):CJ×Int:=
 if inB (svF w b) 0 w.Ay.Laid.length=false then (w,21) else
 (⟨b.1,w.K7++w.Ay.Laid.take (svF w b).toNat,w.Ez++(Di (w.Ay.Laid.take (svF w b).toNat) w.Ay.BG).2,w64 (w.MC+1)⟩,0)
structure Hap(w:CJ)(a:FJ)(r:CJ×Int):Prop where
 hpK:inB a.Kind 1 4=false->r=(w,26)
 hpB:inB a.Kind 1 4=true->DC w.Ay=false->r=(w,21)
 hpL:DC w.Ay=true->a.Kind=1->r=({w with Ay:=(IJ w.Ay a.Req).1},(IJ w.Ay a.Req).2)
 hpS:DC w.Ay=true->a.Kind=2->r=(⟨(JV w.Ay).1,w.K7++w.Ay.Laid,w.Ez++(JV w.Ay).2,w.MC⟩,0)
 hpM:DC w.Ay=true->a.Kind=3->∃m,ZD w.Ay a.N_=some m/\r=({w with Ay:=m.1},if m.2=true then 0 else 25)
 hpF:DC w.Ay=true->a.Kind=4->∃n q,Oa (C2 w.Ay.Ac a.Q4) n q/\r=sT w (HM (C2 w.Ay.Ac a.Q4) n q)
structure ALP(w:CJ):Prop where
 wrF:Jv w
 wrD:w.K7.length+w.Ay.Laid.length<=1048576
 wrP:w.Ez.length+w.Ay.Laid.length<=1048576
theorem qP(a:s.Log.Data.length<=1048576/\s.DR.Data.length<=1048576/\s.Odd.Data.length<=1048576){q:AF×Int×Bool}(h:Oa s n q):CS (HM s n q).1:=by have ⟨_,_,c⟩:=recovered a.1 h;have e:=uN s.Log (QR s n q);unfold HM;split;exact⟨c,by rw[QP];omega,a.2.1,a.2.2,by simp⟩;exact Ve
theorem ALV{s:BY}(a:s.Log.Data.length<=1048576/\s.DR.Data.length<=1048576/\s.Odd.Data.length<=1048576){n:Int}{q:AF×Int×Bool}(h:Oa s n q):eH s=some (HM s n q):=by
 have ⟨c,_,_⟩:=recovered a.1 h;unfold eH ZK HM;simp only[c,AB,uA,AW,WI a.1 h,uB,OG,NY];cases (MA s n q).2.2 with
 |false=>rfl|true=>cases Qd s<;>rfl
theorem uY(c:Jv w){l:List Int}{q:AF×Int×Bool}(h:Oa (C2 w.Ay.Ac l) n q)(a:eH (C2 w.Ay.Ac l)=some (HM (C2 w.Ay.Ac l) n q)):Rz w l=some (svF w (HM (C2 w.Ay.Ac l) n q)):=by unfold Rz svF;simp only[Ed c.KF,AB,KO,a];cases DC w.Ay;rfl;cases (HM (C2 w.Ay.Ac l) n q).2<;>rfl
theorem uW{w:CJ}(O:ALP w)(a:FJ):∃r,lU w a=some r/\Jv r.1/\Hap w a r:=by
 have hlim:=Gk;have c:=O.wrF;have e:=c.KF;have Z:=O.wrD;have hp:=O.wrP;have ⟨n,q,R⟩:=Xc (C2 w.Ay.Ac a.Q4);have Q:=ALV (KX e a.Q4) R;have bf:=qP (KX e a.Q4) R;have s1:=uY c R Q;have ⟨m,m1,mf,_⟩:=qH e a.N_;have ⟨Y,z2,z3⟩:=tt e;have hz:(JV w.Ay).2.length<=w.Ay.Laid.length:=by unfold JV;split;simp;have:=(Io w.Ay.Laid e.Dt).2.1;dsimp only;omega
 have ⟨y1,y2,X⟩:=Io (w.Ay.Laid.take (svF w (HM (C2 w.Ay.Ac a.Q4) n q)).toNat) e.Dt;have yl:(w.Ay.Laid.take (svF w (HM (C2 w.Ay.Ac a.Q4) n q)).toNat).length<=w.Ay.Laid.length:=by rw[Ag];omega
 unfold lU Uh APK;simp only[ALe c,AB,Db,BW,Ed e,VT e,dQ e,m1,s1,AW,KO,Q,CX,Fu];by_cases B:inB a.Kind 1 4=true;case neg=>rw[Bool.not_eq_true]at B;have H:=B;unfold inB at H;rw[decide_eq_false_iff_not]at H;rw[B,CI];exact⟨_,rfl,c,λ_=>rfl,by simp[B],λ_ h=>absurd h (by omega),λ_ h=>absurd h (by omega),λ_ h=>absurd h (by omega),λ_ h=>absurd h (by omega)⟩
 rw[B,CB];cases g:DC w.Ay with
 |false=>rw[CI];exact⟨_,rfl,c,by simp[B],λ_ _=>rfl,by simp[g],by simp[g],by simp[g],by simp[g]⟩
 |true=>
  rw[B6]at B;rw[CB];by_cases E:a.Kind=1;rw[E];refine⟨_,rfl,⟨Zp e _,c.done,c.AHO,c.ids⟩,by simp[inB,E],by simp[g],λ_ _=>rfl,by simp[E],by simp[E],by simp[E]⟩;by_cases G:a.Kind=2;rw[G,DX,DX];refine⟨_,rfl,⟨Y,?_,?_,?_⟩,by simp[inB,G],by simp[g],by simp[G],λ_ _=>rfl,by simp[G],by simp[G]⟩;rw[AH];omega;rw[AH];omega;intro r I;rcases Br.1 I with h|h;exact c.ids r h;exact z3 r h;by_cases j:a.Kind=3;rw[j];cases S:m.2 with|false=>exact⟨_,rfl,⟨mf,c.done,c.AHO,c.ids⟩,by simp[inB,j],by simp[g],by simp[j],by simp[j],λ_ _=>⟨m,m1,by rw[S];rfl⟩,by simp[j]⟩|true=>exact⟨_,rfl,⟨mf,c.done,c.AHO,c.ids⟩,by simp[inB,j],by simp[g],by simp[j],by simp[j],λ_ _=>⟨m,m1,by rw[S];rfl⟩,by simp[j]⟩
  have y:a.Kind=4:=by omega
  rw[y,show ((4:Int)==1)=false from rfl,CI,show ((4:Int)==2)=false from rfl,CI,show ((4:Int)==3)=false from rfl,CI];cases J:inB (svF w (HM (C2 w.Ay.Ac a.Q4) n q)) 0 w.Ay.Laid.length with
  |false=>rw[CI,AB];exact⟨_,rfl,c,by simp[inB,y],by simp[g],by simp[y],by simp[y],by simp[y],λ_ _=>⟨n,q,R,by unfold sT;rw[AY J]⟩⟩
  |true=>
   have L:=B6.1 J;have yd:=QN e.Dt (l:=w.Ay.Laid.take (svF w (HM (C2 w.Ay.Ac a.Q4) n q)).toNat) (by have:=e.laid;omega);have E:w.K7.length+(w.Ay.Laid.take (svF w (HM (C2 w.Ay.Ac a.Q4) n q)).toNat).length<=lim:=by omega
   have G:w.Ez.length+(Di (w.Ay.Laid.take (svF w (HM (C2 w.Ay.Ac a.Q4) n q)).toNat) w.Ay.BG).2.length<=lim:=by omega
   simp only[CB,CI,D2 L,D2 E,D2 G,yd,AB,Cy,Kb,B5];refine⟨_,rfl,⟨bf,?_,?_,?_⟩,by simp[inB,y],by simp[g],by simp[y],by simp[y],by simp[y],λ_ _=>⟨n,q,R,by unfold sT;rw[J,Aa (by simp)]⟩⟩;rw[AH];omega;rw[AH];omega;intro r I;rcases Br.1 I with h|h;exact c.ids r h;have:=X r h;omega
theorem AOB{a:FJ}{r:CJ×Int}(B:Jv w)(h:Hap w a r)(j:w.Ay.Laid.length<=8):r.1.Ay.Laid.length<=8/\r.1.K7.length<=w.K7.length+8/\r.1.Ez.length<=w.Ez.length+8:=by
 have e:=B.KF;by_cases g:inB a.Kind 1 4=true;case neg=>rw[h.hpK (by simpa using g)];exact⟨j,by dsimp only;omega,by dsimp only;omega⟩
 by_cases c:DC w.Ay=true;case neg=>rw[h.hpB g (by simpa using c)];exact⟨j,by dsimp only;omega,by dsimp only;omega⟩
 rw[B6]at g;by_cases G:a.Kind=1;rw[h.hpL c G];refine⟨?_,by dsimp only;omega,by dsimp only;omega⟩;dsimp only;unfold IJ;grind;by_cases H:a.Kind=2;rw[h.hpS c H];have:=(Io w.Ay.Laid e.Dt).2.1;grind[JV,List.length_append];by_cases I:a.Kind=3;have ⟨m,m1,m2⟩:=h.hpM c I;have ⟨O,J,_,L,_⟩:=qH e a.N_;grind[Option.some.inj];have ⟨n,q,R,y⟩:=h.hpF c (by omega);rw[y];unfold sT;split;exact⟨j,by dsimp only;omega,by dsimp only;omega⟩;have:=(Io (w.Ay.Laid.take (svF w (HM (C2 w.Ay.Ac a.Q4) n q)).toNat) e.Dt).2.1;have E:(HM (C2 w.Ay.Ac a.Q4) n q).1.Laid=[]:=by unfold HM;split<;>rfl
 refine⟨by dsimp only;rw[E];simp,?_,?_⟩<;>(dsimp only;rw[AH,Ag]at *;omega)
def jT(p:Int):List Bo->List UInt8| []=>[]|x::l=>frB p (Fs x)++jT (p+1) l
def jF(o p:Int):List Bo->List By| []=>[]|x::l=>⟨p,Fs x,o+(frB p (Fs x)).length⟩::jF (o+(frB p (Fs x)).length) (p+1) l
def jOk(p:Int):List Bo->Prop| []=>True|x::l=>RE p (Fs x)/\Gl x=true/\jOk (p+1) l
theorem yY:∀(t u:List Bo) (p:Int),jT p (t++u)=jT p t++jT (p+t.length) u
 | [],u,p=>by simp[jT]|b::t,u,p=>by simp only[A8,jT,yY t u (p+1),BF,AK];grind
theorem Zl:∀{t u:List Bo} {p:Int},jOk p (t++u)↔jOk p t/\jOk (p+t.length) u
 | [],u,p=>by simp[jOk]|b::t,u,p=>by simp only[A8,jOk,Zl (t:=t),AK,and_assoc];grind
theorem gh:∀{l:List Bo} {p:Int},jOk p l->∀x∈l,Gl x=true
 |y::l,p,h,x,a=>by rcases Ae.1 a with rfl|a;exact h.2.1;exact gh h.2.2 x a
theorem AS3:∀{l:List Bo} {p:Int},jOk p l->l.length<=(jT p l).length
 | [],p,h=>by simp[jT]|b::t,p,h=>by have a:=Qm h.1;have c:=AS3 h.2.2;simp only[jT,AH,AK];omega
theorem AX4:∀(l:List Bo) (p:Int) (o c f:Nat) (s:List UInt8),jOk p l->s.drop o=jT p l->o<=c->c<=s.length->c<f+o ->
 ∃k,k<=l.length/\frs f (s.take c) o=jF o p (l.take k)/\o+(jT p (l.take k)).length<=c/\∀j,j<=l.length->o+(jT p (l.take j)).length<=c->j<=k
 |l,p,o,c,0,s,_,_,y,_,h=>by omega| [],p,o,c,f+1,s,g,E,J,L,X=>by
  refine⟨0,by simp,?_,by simpa[jT] using J,λj G _=>G⟩;unfold frs;have I:(N4 (s.take c) o).2=false:=by unfold N4;rw[AY (by rw[Ag];omega),Ah,Mq,E,Vz];intro q b y B;have:=Qm y;have Q:=B.length_le;rw[Ag]at Q;have h4:(jT p []).length=0:=rfl;omega
  rw[Aa (by rw[I];simp)];rfl
 |b::t,p,o,c,f+1,s,g,E,J,L,X=>by
  have hb:=Qm g.1;have e:N4 (s.take c) o=AC2 ((jT p (b::t)).take (c-o)) o:=by unfold N4;rw[AY (by rw[Ag];omega),Ah,Mq,E]
  have a:frB p (Fs b) <+: jT p (b::t):=⟨_,rfl⟩;unfold frs;by_cases Y:o+(frB p (Fs b)).length<=c;have S:N4 (s.take c) o=(⟨p,Fs b,(o:Int)+(frB p (Fs b)).length⟩,true):=by rw[e,wJ g.1 (AEd a (by omega))]
  rw[S,AY rfl];have O:(o:Int)+(frB p (Fs b)).length=((o+(frB p (Fs b)).length:Nat):Int):=by omega
  have ⟨k,Z,k2,k3,k4⟩:=AX4 t (p+1) (o+(frB p (Fs b)).length) c f s g.2.2 (by rw[<-List.drop_drop,E];simp[jT]) Y L (by omega);refine⟨k+1,by simpa using Z,?_,?_,?_⟩;dsimp only;rw[Cs,jF,O,k2];rw[Cs,jT,AH];omega;intro j G H;cases j with
  |zero=>omega|succ j=>rw[Cs,jT,AH]at H;have:=k4 j (by simpa using G) (by omega);omega
  have I:(N4 (s.take c) o).2=false:=by rw[e,Vz];intro q b' y B;obtain⟨rfl,rfl⟩:=AKE y g.1 (B.trans (Dm _ _)) a;have:=B.length_le;rw[Ag]at this;omega
  rw[Aa (by rw[I];simp)];refine⟨0,by simp,rfl,by simpa[jT] using J,λj G H=>?_⟩;cases j with
  |zero=>omega|succ j=>rw[Cs,jT,AH]at H;omega
theorem mO{l:List Bo}(h:jOk p l){c:Nat}(a:c<=(jT p l).length) :
 ∃k,k<=l.length/\DW ((jT p l).take c)=jF 0 p (l.take k)/\(jT p (l.take k)).length<=c/\∀j,j<=l.length->(jT p (l.take j)).length<=c->j<=k:=by have ⟨k,e,g,q,y⟩:=AX4 l p 0 c (c+1) (jT p l) h rfl (by omega) a (by omega);grind[DW,List.length_take,Nat.min_eq_left]
theorem yk:∀{l:List Bo} {o p v:Int},(∀x∈l,Gl x=true)->p<=v+1->notes (aft v (jF o p l))=l.drop (v+1-p).toNat
 | [],o,p,v,_,_=>by simp[jF,aft,notes]|x::l,o,p,v,h,q=>by have c:=λe (g:p+1<=e+1)=>yk (l:=l) (o:=o+(frB p (Fs x)).length) (p:=p+1) (v:=e) (λy j=>h y (Am _ j)) g;unfold jF aft;by_cases a:p<=v;rw[AY a,c v (by omega),show (v+1-p).toNat=(v+1-(p+1)).toNat+1 by omega,List.drop_succ_cons];rw[Aa a,AY (show p=v+1 by omega)];unfold notes;rw[oG (h x (BQ ..)),AY rfl,c (v+1) (by omega),show (v+1+1-(p+1)).toNat=0 by omega,show (v+1-p).toNat=0 by omega];rfl
theorem AVp:∀{l:List Bo} {o p v:Int},(∀x∈l,Gl x=true)->p<=v+1->used v o (jF o p l)=o+(jT p l).length
 | [],o,p,v,_,_=>by simp[jF,used,jT]|x::l,o,p,v,h,g=>by have j:=λa (c:p+1<=a+1)=>AVp (l:=l) (o:=o+(frB p (Fs x)).length) (p:=p+1) (v:=a) (λy e=>h y (Am _ e)) c;unfold jF used jT;rw[AH];grind[oG,List.mem_cons_self]
theorem AVo:∀{l:List Bo} {o p t:Int},p<=t+1->Xp t o (jF o p l)=o+(jT p (l.take (t+1-p).toNat)).length
 | [],o,p,t,_=>by simp[jF,Xp,jT]|x::l,o,p,t,c=>by unfold jF Xp;by_cases a:p<=t;rw[AY a,AVo (by omega),show (t+1-p).toNat=(t+1-(p+1)).toNat+1 by omega,Cs,jT,AH];dsimp only;omega;rw[Aa a,show (t+1-p).toNat=0 by omega];simp[jT]
theorem AYe(q:Bo):LD q=Gl q:=by unfold LD Gl Up fld inB;simp only[Bool.and_assoc]
theorem Two.sw3(h:Two n k):Two k n:=by rcases h with ⟨rfl,rfl⟩|⟨rfl,rfl⟩;exact .inr ⟨rfl,rfl⟩;exact .inl ⟨rfl,rfl⟩
structure HQ(h:AF)(q:Int):Prop where
 hqB:C0 h=true
 hqF:Bt h
 hqQ:inB q 0 1000000=true
def Gx(h:AF)(q:Int):Bp:=⟨Cu h q,((Cu h q).length:Int)⟩
theorem HQ.rdF(a:HQ h q)(c:CM s k=Gx h q):GX s k=some (h,q,true):=AXM a.hqB a.hqF a.hqQ c
theorem HQ.ALS(a:HQ h q)(l:List Bo)(c:inB p 0 1000000=true):HQ (Di l h).1 p:=
 ⟨GH.2 (Um l (GH.1 a.hqB)).1,(Io l a.hqF).1,c⟩
theorem Xx(h:AF)(q:Int):Eu (Gx h q)=true:=by grind[Fz,Gx,DZ]
def fY(a:Bp):Prop:=∀(s:BY) (k:Int),CM s k=a->∃r,GX s k=some r/\r.2.2=false
theorem AHu(a:HQ h q){m:Nat}(c:m<(Cu h q).length):fY ⟨(Cu h q).take m,(m:Int)⟩:=by
 intro s k j;have ⟨r,y,e⟩:=AVM a.hqB a.hqQ c;have hT:=Fz h q;have g:((Cu h q).take m).length=m:=by rw[Ag];omega
 refine⟨r,rdI ?_,e⟩;grind[MJ,EK,AB,Dw,DZ,BW,CB,D2,Int.toNat_natCast,Nat.min_self]
theorem Vh(hT:T.length<=20000):fY ⟨T,0⟩:=λs k a=>⟨_,AHM a hT,rfl⟩
def Pre(d:List UInt8):Prop:=∃h q,HQ h q/\d <+: Cu h q
theorem HQ.AZT(a:HQ h q):Pre []:=⟨h,q,a,EN⟩
theorem ATH(h:Pre a.Data)(p:Int):Pre (E5 a p).Data:=by have ⟨g,q,c,e⟩:=h;unfold E5;split;exact⟨g,q,c,(Dm _ _).trans e⟩;exact h
def mid(R:List Bo)(b q p:Int):List Bo:=(R.take (p-b).toNat).drop (q-b).toNat
theorem VC(R:List Bo)(b q:Int):mid R b q q=[]:=by unfold mid;rw[List.drop_eq_nil_iff,Ag];omega
theorem AKc(R L:List Bo)(h:q<=p)(a:p<=b+R.length):mid R b q p++(R++L).drop (p-b).toNat=R.drop (q-b).toNat++L:=by
 unfold mid;rw[E6 (by omega),<-BF];congr 1
 conv=>rhs;rw[<-CL (p-b).toNat R]
 grind[List.drop_append,List.length_take,min]
def ALQ(a:Bp)(H:AF)(q b:Int)(R:List Bo):Prop:=
 (a.Safe=a.Data.length/\fY a/\Pre a.Data)\/(∃h p,HQ h p/\a=Gx h p/\p<=q/\(p=q->h=H))\/(∃p,q<=p/\p<=b+R.length/\a=⟨Cu (Di (mid R b q p) H).1 p,0⟩)
def AYU(a:Bp)(H:AF)(q b:Int)(R:List Bo):Prop:=
 fY a\/∃h p,HQ h p/\a=Gx h p/\(p<=q/\(p=q->h=H)\/q<=p/\p<=b+R.length/\h=(Di (mid R b q p) H).1)
structure Leg(e:Ai)(n k b q:Int)(R:List Bo)(H:AF):Prop where
 lgT:Two n k
 lgE:DC e=true
 lgF:CS e
 lgJ:jOk (b+1) (R++e.Laid)
 lgD:e.Ac.Log=⟨jT (b+1) (R++e.Laid),((jT (b+1) R).length:Int)⟩
 lgS:e.Seq=b+R.length+e.Laid.length
 lgB:0<=b/\b<=q/\q<=b+R.length
 lgH:HQ H q
 lgM:CM e.Ac n=Gx H q
 lgX:e.BG=(Di (R.drop (q-b).toNat) H).1
 lgO:ALQ (CM e.Ac k) H q b R
theorem Leg.AZg(h:Leg e n k b q R H):Pre (CM e.Ac k).Data/\Pre (CM e.Ac n).Data:=by have hB:=h.lgB;have hS:=h.lgS;have hQ:=(DM h.lgE).2.2.2.1;refine⟨?_,by rw[h.lgM];exact⟨H,q,h.lgH,Ik _⟩⟩;rcases h.lgO with ⟨_,_,g⟩|⟨a,p,c,e,_⟩|⟨p,j,y,e⟩;exact g;rw[e];exact⟨a,p,c,Ik _⟩;rw[e];exact⟨_,p,h.lgH.ALS (mid R b q p) (B6.2 (by omega)),Ik _⟩
theorem AN6(hT:Two n k)(hB:b<=q/\q<=b+R.length)(hH:HQ H q)(hM:CM s n=Gx H q)(hO:AYU (CM s k) H q b R) :
 ∃O B q' H',Two O B/\Kk s=some O/\HQ H' q'/\CM s O=Gx H' q'/\q<=q'/\q'<=b+R.length/\H'=(Di (mid R b q q') H).1 /\
  (fY (CM s B)/\B=k\/∃h p,HQ h p/\CM s B=Gx h p/\p<=q'/\(p=q'->h=H')):=by
 have e:=hH.rdF hM;rcases hO with hO|⟨h,p,a,j,S⟩;have ⟨y,Z,L⟩:=hO s k rfl;exact⟨n,k,q,H,hT,(hT.nw3 e Z).1 L rfl,hH,hM,by omega,hB.2,by rw[VC];rfl,.inl ⟨hO,rfl⟩⟩;have E:=a.rdF j;have tie:p=q->h=H:=by rcases S with c|c;exact c.2;rintro rfl;rw[c.2.2,VC];rfl
 by_cases G:q<p;have hN:=(hT.nw3 e E).2.1 rfl rfl G;rcases S with c|⟨Q,X,Y⟩;omega;exact⟨k,n,p,h,hT.sw3,hN,a,j,Q,X,Y,.inr ⟨H,q,hH,hM,Q,λg=>by omega⟩⟩;rcases(hT.sw3.nw3 E e).2.2 rfl rfl (show p<=q by omega) with hN|hN;have J:p=q:=by by_cases I:p<q;have:=(hT.sw3.nw3 E e).2.1 rfl rfl I;rw[hN]at this;rcases hT with ⟨rfl,rfl⟩|⟨rfl,rfl⟩<;>cases this;omega
 subst J;obtain rfl:=tie rfl;exact⟨k,n,p,h,hT.sw3,hN,a,j,by omega,hB.2,by rw[VC];rfl,.inr ⟨h,p,hH,hM,by omega,λ_=>rfl⟩⟩;exact⟨n,k,q,H,hT,hN,hH,hM,by omega,hB.2,by rw[VC];rfl,.inr ⟨h,p,a,j,by omega,tie⟩⟩
theorem KJ(h:Eu a=true)(p:Int):∃c:Nat,a.Safe<=c/\c<=a.Data.length/\E5 a p=⟨a.Data.take c,(c:Int)⟩/\(p=0->(c:Int)=a.Safe)/\(p=20000->c=a.Data.length):=by grind[DZ,fA,E5,Int.toNat_of_nonneg]
theorem LS(h:Eu a=true)(p:Int):Eu (E5 a p)=true/\(E5 a p).Safe=(E5 a p).Data.length:=by have ⟨c,e,g,j,_⟩:=KJ h p;grind[DZ,List.length_take]
theorem vt(s:BY)(l:List Int)(k:Int):∃p,CM (C2 s l) k=E5 (CM s k) p:=by unfold CM C2;split;exact⟨_,rfl⟩;exact⟨_,rfl⟩
theorem ATg(h:ALQ a H q b R)(g:Eu a=true)(hH:HQ H q)(hQ:b+R.length<=1000000)(p:Int) :
 (E5 a p).Safe=(E5 a p).Data.length/\AYU (E5 a p) H q b R:=by have Q:=B6.1 hH.hqQ;refine⟨(LS g p).2,?_⟩;rcases h with ⟨I,J,_⟩|⟨h,e,j,rfl,y,B⟩|⟨e,y,B,rfl⟩;rw[NM g I p];exact .inl J;rw[NM g rfl p];exact .inr ⟨h,e,j,rfl,.inl ⟨y,B⟩⟩;have ⟨c,L,E,G,_⟩:=KJ g p;have j:=hH.ALS (mid R b q e) (p:=e) (B6.2 (by omega));rw[G];by_cases O:c=(Cu (Di (mid R b q e) H).1 e).length;right;grind[Gx,List.take_length];left;exact AHu j (by dsimp only at E;omega)
theorem AXT(h:Ek s=true)(k:Int):Eu (CM s k)=true:=by have ⟨_,a,c⟩:=ID h;grind[CM]
theorem Leg.AaL(h:Leg e n k b q R H)(l:List Int) :
 ∃a Y q' H' m f,Oa (C2 e.Ac l) a (H',q',true)/\m<=e.Laid.length/\(l.getD 0 0=0->m=0)/\(l.getD 0 0=20000->m=e.Laid.length)/\MA (C2 e.Ac l) a (H',q',true)=(f.BG,f.Seq,true) /\
  QR (C2 e.Ac l) a (H',q',true)=((jT (b+1) (R++e.Laid.take m)).length:Int)/\HM (C2 e.Ac l) a (H',q',true)=(f,true)/\Leg f a Y b q' (R++e.Laid.take m) H'/\f.Laid=[]/\f.BG=(Di (e.Laid.take m) e.BG).1:=by
 have ⟨hE1,hE2,hE3,hE4,hE5⟩:=DM h.lgE;have ⟨aL,aE,aO⟩:=ID hE2;have hS:=h.lgS;have hB:=h.lgB;have hD:=h.lgD;have ⟨c,c1,Z,c3,c4,c5⟩:=KJ aL (l.getD 0 0);rw[hD]at c1 Z c4 c5;dsimp only at c1 Z c4 c5;have hL:(C2 e.Ac l).Log=⟨(jT (b+1) (R++e.Laid)).take c,(c:Int)⟩:=by show E5 e.Ac.Log _=_;rw[c3,hD]
 have ⟨j,j1,j2,j3,j4⟩:=mO h.lgJ Z;rw[AH]at j1;have hRj:R.length<=j:=j4 R.length (by simp) (by rw[Ci rfl];omega);have ⟨m,hm⟩:∃m,m=j-R.length:=⟨_,rfl⟩;have hml:m<=e.Laid.length:=by omega
 have E:(R++e.Laid).take j=R++e.Laid.take m:=by rw[List.take_append,BH hRj,hm]
 rw[E]at j2 j3;have y:(e.Laid.take m).length=m:=by rw[Ag];omega
 have hJ:=Zl.1 h.lgJ;have hJm:jOk (b+1) (R++e.Laid.take m):=by have h1:=h.lgJ;rw[<-CL j (R++e.Laid),E]at h1;exact(Zl.1 h1).1
 have ⟨p1,Q⟩:=vt e.Ac l n;rw[h.lgM,NM (Xx H q) rfl]at Q;have ⟨p2,hp2⟩:=vt e.Ac l k;have ho:=ATg h.lgO (AXT hE2 k) h.lgH (by omega) p2;rw[<-hp2]at ho;have ⟨a,Y,q',H',t1,t2,t3,t4,t5,t6,t7,t8⟩:=AN6 h.lgT ⟨hB.2.1,hB.2.2⟩ h.lgH Q ho.2;have hq':=B6.1 t3.hqQ;have hrd:=t3.rdF t4;have R1:Oa (C2 e.Ac l) a (H',q',true):=by have ⟨n0,q0,R0⟩:=Xc (C2 e.Ac l);have G:a=n0:=Option.some.inj (t2.symm.trans R0.sn);subst G;have e2:(H',q',true)=q0:=Option.some.inj (hrd.symm.trans R0.sr);subst e2;exact R0
 have B:Ek (C2 e.Ac l)=true:=by unfold Ek C2;simp[(LS aL _).1,(LS aE _).1,(LS aO _).1]
 have hcalm:Qd (C2 e.Ac l)=true:=by unfold Qd C2;simp[(LS aL _).2,(LS aE _).2,(LS aO _).2]
 have O:¬a<0:=by rcases t1 with ⟨rfl,_⟩|⟨rfl,_⟩<;>omega
 have hno:notes (aft q' (DW (C2 e.Ac l).Log.Data))=(R++e.Laid.take m).drop (q'-b).toNat:=by rw[hL];rw[j2,yk (gh hJm) (by omega),show q'+1-(b+1)=q'-b by omega]
 have hdl:((R++e.Laid.take m).drop (q'-b).toNat).length=R.length+m-(q'-b).toNat:=by rw[BD,AH,y]
 have g:MA (C2 e.Ac l) a (H',q',true)=((Di ((R++e.Laid.take m).drop (q'-b).toNat) H').1,b+R.length+m,true):=by unfold MA;rw[AY ⟨B,O⟩];rw[hno,hdl,show q'+((R.length+m-(q'-b).toNat:Nat):Int)=b+R.length+m by omega]
 have X:QR (C2 e.Ac l) a (H',q',true)=((jT (b+1) (R++e.Laid.take m)).length:Int):=by unfold QR;rw[AY ⟨B,O⟩,hL];dsimp only;rw[j2,AVp (gh hJm) (by omega)];omega
 have htr:OF (aj (C2 e.Ac l).Log ((jT (b+1) (R++e.Laid.take m)).length:Int)).1=⟨jT (b+1) (R++e.Laid.take m),((jT (b+1) (R++e.Laid.take m)).length:Int)⟩:=by
  have hcl:((jT (b+1) (R++e.Laid)).take c).length=c:=by rw[Ag];omega
  have hA:=DZ.1 (LS aL (l.getD 0 0)).1;have S:((jT (b+1) (R++e.Laid)).take c).take (jT (b+1) (R++e.Laid.take m)).length=jT (b+1) (R++e.Laid.take m):=by
   rw[Ms,Nat.min_eq_left j3]
   conv=>lhs;arg 2;rw[<-CL j (R++e.Laid),E,yY]
   exact Ci rfl
  have ha:Eu (C2 e.Ac l).Log=true:=(LS aL _).1;have h20:c<=20000:=by have:=(DZ.1 aL).1;rw[hD]at this;dsimp only at this;omega
  rw[hL]at ha ⊢;unfold aj;rw[AY ⟨ha,B6.2 ⟨by omega,by dsimp only;omega⟩⟩];rw[Ah,S];unfold OF;rw[AY (DZ.2 ⟨by dsimp only;omega,by dsimp only;split<;>omega⟩)]
 have I:=qP (KX h.lgF l) R1;have J:HM (C2 e.Ac l) a (H',q',true)=(⟨(Di ((R++e.Laid.take m).drop (q'-b).toNat) H').1,⟨⟨jT (b+1) (R++e.Laid.take m),((jT (b+1) (R++e.Laid.take m)).length:Int)⟩,(C2 e.Ac l).DR,(C2 e.Ac l).Odd⟩,b+R.length+m,[]⟩,true):=by unfold HM;rw[g,X,AY ⟨rfl,hcalm⟩,htr]
 rw[J]at I;have hsl:∀i,CM ⟨⟨jT (b+1) (R++e.Laid.take m),((jT (b+1) (R++e.Laid.take m)).length:Int)⟩,(C2 e.Ac l).DR,(C2 e.Ac l).Odd⟩ i=CM (C2 e.Ac l) i:=λi=>rfl;have hhq:=t3.ALS ((R++e.Laid.take m).drop (q'-b).toNat) t3.hqQ;refine⟨a,Y,q',H',m,_,R1,hml,?_,?_,g,X,J,⟨t1,?_,I,?_,?_,?_,?_,t3,t4,rfl,?_⟩,rfl,?_⟩;intro h0;have G:=c4 h0;rw[yY,AH]at j3;have h2:=AS3 (Zl.1 hJm).2;omega;grind[List.take_of_length_le,Nat.le_antisymm,Nat.le_sub_of_add_le,Nat.add_comm];have L:Eu ⟨jT (b+1) (R++e.Laid.take m),((jT (b+1) (R++e.Laid.take m)).length:Int)⟩=true:=by have:=(DZ.1 aL).1;rw[hD]at this;dsimp only at this;exact DZ.2 ⟨by dsimp only;omega,by dsimp only;omega⟩
 have ⟨_,y1,y2⟩:=ID B;unfold DC Ek;simp only[hhq.hqB,L,y1,y2,Co,AT,Oc,Ce];rw[B6.2 (by omega)];rfl;rw[CO];exact hJm;rw[CO];dsimp only;rw[AH,y,AT];omega;rw[AH,y];omega;rcases t8 with ⟨t8,rfl⟩|⟨h0,p0,u1,u2,u3,u4⟩
 .exact .inl ⟨ho.1,t8,by have ⟨p,hp⟩:=vt e.Ac l Y;rw[hsl,hp];exact ATH h.AZg.1 p⟩
 exact .inr (.inl ⟨h0,p0,u1,u2,u3,u4⟩);have G:=R4 (mid R b q q') ((R++e.Laid.take m).drop (q'-b).toNat) H;rw[AKc R _ t5 t6,R4]at G;rw[h.lgX,t7];exact(congrArg Prod.fst G).symm
theorem Leg.Aa0(h:Leg e n k b q R H):Leg (JV e).1 n k b q (R++e.Laid) H/\(JV e).1.Laid=[]/\JV e=(⟨(Di e.Laid e.BG).1,⟨⟨jT (b+1) (R++e.Laid),((jT (b+1) (R++e.Laid)).length:Int)⟩,e.Ac.DR,e.Ac.Odd⟩,e.Seq,[]⟩,(Di e.Laid e.BG).2):=by
 have ⟨hE1,hE2,hE3,hE4,hE5⟩:=DM h.lgE;have ⟨aL,aE,aO⟩:=ID hE2;have hS:=h.lgS;have hB:=h.lgB;have hA:=(DZ.1 aL).1;rw[h.lgD]at hA;have g:JV e=(⟨(Di e.Laid e.BG).1,⟨⟨jT (b+1) (R++e.Laid),((jT (b+1) (R++e.Laid)).length:Int)⟩,e.Ac.DR,e.Ac.Odd⟩,e.Seq,[]⟩,(Di e.Laid e.BG).2):=by unfold JV OF;rw[Aa (by rw[h.lgE];simp),AY aL,h.lgD]
 have j:=(tt h.lgF).1;have a:=h.lgH.ALS (R.drop (q-b).toNat) h.lgH.hqQ;rw[<-h.lgX]at a;have a:=a.ALS e.Laid h.lgH.hqQ;rw[g]at j ⊢;refine⟨⟨h.lgT,?_,j,?_,?_,?_,?_,h.lgH,h.lgM,?_,?_⟩,rfl,rfl⟩;unfold DC Ek;have c:Eu ⟨jT (b+1) (R++e.Laid),((jT (b+1) (R++e.Laid)).length:Int)⟩=true:=DZ.2 ⟨by dsimp only;omega,by dsimp only;omega⟩;simp only[a.hqB,c,aE,aO,Co,AT,Oc,Ce];rw[B6.2 (by omega)];rfl;rw[CO];exact h.lgJ;rw[CO];dsimp only;rw[AH,AT];omega;rw[AH];omega;dsimp only;rw[h.lgX,E6 (by omega),R4];rcases h.lgO with o|o|⟨p,y,E,B⟩;exact .inl o;exact .inr (.inl o);refine .inr (.inr ⟨p,y,by rw[AH];omega,?_⟩);have:mid (R++e.Laid) b q p=mid R b q p:=by unfold mid;rw[Gz (by omega)]
 rw[this];exact B
theorem Leg.AcM(h:Leg e n k b q R H)(x:Bo):Leg (IJ e x).1 n k b q R H:=by
 by_cases y:(IJ e x).2=0;have ⟨B,X,J,L,g,E⟩:=V2 y;have ⟨Q,S⟩:=AS9 y;have hS:=h.lgS;have hB:=h.lgB;have O:=DM B;have a:(IJ e x).1.Ac.DR=e.Ac.DR/\(IJ e x).1.Ac.Odd=e.Ac.Odd:=by unfold IJ;split;exact⟨rfl,rfl⟩;split;exact⟨rfl,rfl⟩;split;exact⟨rfl,rfl⟩;split;exact⟨rfl,rfl⟩;exact⟨rfl,rfl⟩
 have c:∀i,CM (IJ e x).1.Ac i=CM e.Ac i:=λi=>by unfold CM;rw[a.1,a.2]
 have G:Gl x=true:=by rw[<-AYe];exact J
 have j:RE (e.Seq+1) (Fs x):=⟨by rw[E]at O;omega,by have Y:=AD8 x;have Z:=Jz.2 (zW G);omega⟩
 refine⟨h.lgT,B,Zp h.lgF x,?_,?_,?_,h.lgB,h.lgH,(c n).trans h.lgM,L.trans h.lgX,?_⟩;rw[g,<-BF];refine Zl.2 ⟨h.lgJ,?_,G,trivial⟩;rw[AH,show b+1+((R.length+e.Laid.length:Nat):Int)=e.Seq+1 by omega];exact j;have I:(IJ e x).1.Ac.Log=⟨(IJ e x).1.Ac.Log.Data,(IJ e x).1.Ac.Log.Safe⟩:=rfl;rw[I,Q,S,g,<-BF,yY (R++e.Laid),h.lgD,AH,show b+1+((R.length+e.Laid.length:Nat):Int)=e.Seq+1 by omega];simp[jT];rw[g,E,AH,Cf];omega;rw[c k];exact h.lgO;rw[ADR y];exact h
theorem aa(g:CS e)(y:DC e=true)(B:Kk e.Ac=some n)(h:¬n<0)(p:Int)(E:inB p 0 3=true) :
 (e.Laid≠[]->Kl e p=some (e,false))/\(e.Laid=[] ->
 (p=0->Kl e p=some (Js e (w64 (1-n)) ⟨[],0⟩,true)) /\
 (∀a,p=1->FL (CM e.Ac (w64 (1-n))) (Cu e.BG e.Seq)=(a,true)->Kl e p=some (Js e (w64 (1-n)) a,true)) /\
 (p=2->Kl e p=some (Js e (w64 (1-n)) (OF (CM e.Ac (w64 (1-n)))),true)) /\
 (∀q a,p=3->GX e.Ac n=some q->On e.Ac.Log (Xp q.2.1 0 (DW e.Ac.Log.Data))=(a,true)->Kl e p=some ({e with Ac:={e.Ac with Log:=a}},true))):=by
 have ⟨q,H,J,_⟩:=Dz e.Ac n;have I:=Te g (w64 (1-n));unfold Kl Ps Ny;simp only[Ha g,Ed g,Db,AB,AW,B,y,B5,CI,E,decide_eq_false h,EK,Me,JZ g.Dt,OE (Ax (Fz e.BG e.Seq) (by omega)),NY,H,O5 g.log,WH,BW,CB];refine⟨λc=>?_,λc=>⟨?_,?_,?_,?_⟩⟩;rw[brT (by have:=Jz.2 c;omega)];all_goals rw[c,show decide ((([]:List Bo).length:Int)>0)=false from rfl,CI]
 rintro rfl;rw[<-c];rfl;rintro a rfl j;rw[j,<-c];rfl;rintro rfl;rw[<-c];rfl;rintro q' a rfl G j;cases G;rw[j,SX,<-c];rfl
theorem Two.nn3(h:Two n k):¬n<0/\w64 (1-n)=k:=by rcases h with ⟨rfl,rfl⟩|⟨rfl,rfl⟩<;>exact⟨by omega,rfl⟩
theorem tQ(h:Ek s=true)(c:Eu a=true)(k:Int):Ek (WV s k a)=true:=by grind[ID,WV,Ek]
theorem Leg.AZh(h:Leg e n k b q R H)(c:Eu a=true)(g:ALQ a H q b R):Leg (Js e k a) n k b q R H/\CM (Js e k a).Ac k=a:=by have ⟨p1,p2,p3⟩:=h.lgT.pu3 e.Ac a;have hE:=h.lgE;have ⟨_,hE2,_⟩:=DM hE;have j:=tQ hE2 c k;refine⟨⟨h.lgT,?_,Z6 h.lgF (by have:=DZ.1 c;omega),h.lgJ,p3.trans h.lgD,h.lgS,h.lgB,h.lgH,p2.trans h.lgM,h.lgX,?_⟩,p1⟩;grind[DC,Js];show ALQ (CM (WV e.Ac k a) k) H q b R;rw[p1];exact g
theorem Leg.AN6(h:Leg e n k b q R H)(hO:AYU (CM e.Ac k) H q b R)(g:(CM e.Ac k).Safe=(CM e.Ac k).Data.length) :
 ∃n k q' H',Leg e n k b q' R H'/\Kk e.Ac=some n/\q<=q':=by have hB:=h.lgB;have ⟨y,j,q',H',t1,t2,t3,t4,t5,t6,t7,t8⟩:=Lv.P.AN6 h.lgT hB.2 h.lgH h.lgM hO;refine⟨y,j,q',H',⟨t1,h.lgE,h.lgF,h.lgJ,h.lgD,h.lgS,by omega,t3,t4,?_,?_⟩,t2,t5⟩;have a:=R4 (mid R b q q') ((R++[]).drop (q'-b).toNat) H;rw[AKc R [] t5 t6,CO,CO]at a;rw[h.lgX,t7,a];rcases t8 with ⟨t8,rfl⟩|⟨c,p0,B,E,G,I⟩;exact .inl ⟨g,t8,h.AZg.1⟩;exact .inr (.inl ⟨c,p0,B,E,G,I⟩)
theorem Leg.AYH(h:Leg e n k b q R H):∃n k q' H',Leg e n k b q' R H'/\Kk e.Ac=some n:=by rcases h.lgO with ⟨g,c,_⟩|⟨E,p,g,c,B,I⟩|⟨p,g,c,B⟩;have ⟨n,k,q',H',a,b,_⟩:=h.AN6 (.inl c) g;exact⟨n,k,q',H',a,b⟩;have ⟨n,k,q',H',a,b,_⟩:=h.AN6 (.inr ⟨E,p,g,c,.inl ⟨B,I⟩⟩) (by rw[c];rfl);exact⟨n,k,q',H',a,b⟩;have hT:=Fz (Di (mid R b q p) H).1 p;have ⟨y,G,j⟩:=Vh (T:=Cu (Di (mid R b q p) H).1 p) (by omega) e.Ac k B;exact⟨n,k,q,H,h,(h.lgT.nw3 (h.lgH.rdF h.lgM) G).1 j rfl⟩
def Xv(e:Ai):Prop:=∃n k b q R H,Leg e n k b q R H
theorem Leg.AZH(h:Xv e)(O:e.Laid=[]):∃e1 g e3 e4,Kl e 0=some (e1,true)/\Kl e1 1=some (g,true)/\Kl g 2=some (e3,true)/\Kl e3 3=some (e4,true) /\
 ∀f∈[e1,g,e3,e4],Xv f/\f.BG=e.BG/\f.Seq=e.Seq/\f.Laid=[]:=by
 have ⟨n0,k0,b,q0,R,H0,h⟩:=h;have ⟨n,k,q,H,h,hN⟩:=h.AYH;have hT:=Fz e.BG e.Seq;have hB:=h.lgB;have hS:=h.lgS;have hE:=DM h.lgE;rw[O,AT]at hS;have hX:=h.lgX;have ⟨c1,c2⟩:=h.lgT.nn3;have ⟨l1,s1⟩:=h.AZh (a:=⟨[],0⟩) rfl (.inl ⟨rfl,Vh (by simp),h.lgH.AZT⟩);have m1:=((aa h.lgF h.lgE hN c1 0 rfl).2 O).1 rfl;rw[c2]at m1;have N1:Kk (Js e k ⟨[],0⟩).Ac=some n:=by have ⟨y,hy,L⟩:=Vh (T:=[]) (by simp) _ k s1;exact(h.lgT.nw3 (h.lgH.rdF l1.lgM) hy).1 L rfl
 have G:(Di (mid R b q e.Seq) H).1=e.BG:=by rw[hX];unfold mid;rw[BH (by omega)]
 have Y:Eu ⟨Cu e.BG e.Seq,0⟩=true:=DZ.2 ⟨by dsimp only;omega,by dsimp only;omega⟩;have po:ALQ ⟨Cu e.BG e.Seq,0⟩ H q b R:=.inr (.inr ⟨e.Seq,by omega,by omega,by rw[G]⟩);have ⟨E,s2⟩:=l1.AZh Y po;have m2:=((aa l1.lgF l1.lgE N1 c1 1 rfl).2 O).2.1 ⟨Cu e.BG e.Seq,0⟩ rfl (by rw[c2,s1];unfold FL Js;rw[AY ⟨rfl,by simp;omega⟩];rfl);rw[c2]at m2;have N2:Kk (Js (Js e k ⟨[],0⟩) k ⟨Cu e.BG e.Seq,0⟩).Ac=some n:=by have ⟨y,hy,L⟩:=Vh (T:=Cu e.BG e.Seq) (by omega) _ k s2;exact(h.lgT.nw3 (h.lgH.rdF E.lgM) hy).1 L rfl
 have m3:=((aa E.lgF E.lgE N2 c1 2 rfl).2 O).2.2.1 rfl;rw[c2,s2,show OF ⟨Cu e.BG e.Seq,0⟩=Gx e.BG e.Seq by unfold OF;rw[AY Y];rfl]at m3;have ⟨g,S⟩:∃x,x=Js (Js e k ⟨[],0⟩) k ⟨Cu e.BG e.Seq,0⟩:=⟨_,rfl⟩;have B:g.BG=e.BG/\g.Seq=e.Seq/\g.Laid=[]:=by rw[S];exact⟨rfl,rfl,O⟩
 rw[<-S]at m2 m3 E s2;have hHQ:HQ e.BG e.Seq:=⟨hE.1,h.lgF.Dt,B6.2 (by omega)⟩;have hl3:Leg (Js g k ⟨[],0⟩) n k b q R H:=(E.AZh (a:=⟨[],0⟩) rfl (.inl ⟨rfl,Vh (by simp),h.lgH.AZT⟩)).1;have ⟨p1,p2,p3⟩:=h.lgT.pu3 g.Ac (Gx e.BG e.Seq);have Z:=tQ (DM E.lgE).2.1 (Xx e.BG e.Seq) k;have ⟨n',Q,q',H',t1,t2,t3,t4,t5,t6,t7,t8⟩:=Lv.P.AN6 (s:=(Js g k (Gx e.BG e.Seq)).Ac) h.lgT hB.2 h.lgH (p2.trans E.lgM) (.inr ⟨e.BG,e.Seq,hHQ,p1,.inr ⟨by omega,by omega,G.symm⟩⟩);have hqe:q'=e.Seq/\H'=e.BG/\(fY (CM (Js g k (Gx e.BG e.Seq)).Ac Q)->False):=by
  have hk:=hHQ.rdF (s:=(Js g k (Gx e.BG e.Seq)).Ac) p1;have hm:=h.lgH.rdF (s:=(Js g k (Gx e.BG e.Seq)).Ac) (p2.trans E.lgM);have nb:∀i x,GX (Js g k (Gx e.BG e.Seq)).Ac i=some x->x.2.2=true->fY (CM (Js g k (Gx e.BG e.Seq)).Ac i)->False:=by intro i x hx hx2 hb;have ⟨r,r1,r2⟩:=hb _ i rfl;rw[hx]at r1;cases r1;rw[hx2]at r2;cases r2
  have hd:=t3.rdF t4;have hnk:(n'=n/\Q=k)\/(n'=k/\Q=n):=by rcases h.lgT with ⟨rfl,rfl⟩|⟨rfl,rfl⟩<;>rcases t1 with ⟨rfl,rfl⟩|⟨rfl,rfl⟩<;>simp
  rcases hnk with ⟨rfl,rfl⟩|⟨rfl,rfl⟩;rw[hm]at hd;cases hd;refine⟨?_,?_,nb _ _ hk rfl⟩;by_cases J:q<e.Seq;have:=(h.lgT.nw3 hm hk).2.1 rfl rfl J;rw[t2]at this;rcases t1 with ⟨rfl,rfl⟩|⟨rfl,rfl⟩<;>cases this;omega;by_cases J:q<e.Seq;have:=(h.lgT.nw3 hm hk).2.1 rfl rfl J;rw[t2]at this;rcases t1 with ⟨rfl,rfl⟩|⟨rfl,rfl⟩<;>cases this;rw[<-G,show e.Seq=q by omega,VC];rfl;rw[hk]at hd;cases hd;exact⟨rfl,rfl,nb _ _ hm rfl⟩
 obtain⟨rfl,rfl,X⟩:=hqe;have hE2:=DM E.lgE;have hO3:ALQ (CM (Js g k (Gx e.BG e.Seq)).Ac Q) e.BG e.Seq b R:=by rcases t8 with ⟨t8,_⟩|⟨h0,p0,u1,u2,u3,u4⟩;exact(X t8).elim;exact .inr (.inl ⟨h0,p0,u1,u2,u3,u4⟩)
 have hE3:DC (Js g k (Gx e.BG e.Seq))=true:=by have:=E.lgE;unfold DC Js at *;rw[Z];rw[hE2.2.1]at this;exact this
 have I:Leg (Js g k (Gx e.BG e.Seq)) n' Q b e.Seq R e.BG:=by refine⟨t1,hE3,Z6 E.lgF (by have:=DZ.1 (Xx e.BG e.Seq);omega),E.lgJ,p3.trans E.lgD,E.lgS,by omega,t3,t4,?_,hO3⟩;rw[A9 (by omega)];exact B.1
 have ⟨d1,d2⟩:=t1.nn3;have hD:=I.lgD;rw[show (Js g k (Gx e.BG e.Seq)).Laid=[] from B.2.2,CO]at hD;have hJ:=I.lgJ;rw[show (Js g k (Gx e.BG e.Seq)).Laid=[] from B.2.2,CO]at hJ;have hA:=DZ.1 (ID Z).1;have hfr:DW (Js g k (Gx e.BG e.Seq)).Ac.Log.Data=jF 0 (b+1) R:=by rw[hD];have ⟨j,j1,j2,j3,j4⟩:=mO hJ (c:=(jT (b+1) R).length) (Aj _);have:=j4 R.length (Aj _) (by rw[Cd];exact Aj _);rw[Cd,BH this]at j2;exact j2
 have m4:=((aa I.lgF I.lgE t2 d1 3 rfl).2 B.2.2).2.2.2 _ ⟨[],0⟩ rfl (t3.rdF t4) (by rw[hfr];dsimp only;rw[AVo (by omega),BH (by omega),hD];unfold On;have hlA:=(ID (DM I.lgE).2.1).1;rw[hD]at hlA;rw[AY ⟨hlA,B6.2 ⟨by omega,by dsimp only;omega⟩,rfl⟩];rw[show ((0:Int)+((jT (b+1) R).length:Int)).toNat=(jT (b+1) R).length by omega,Cx,show ((jT (b+1) R).length:Int)-(0+((jT (b+1) R).length:Int))=0 by omega]);refine⟨_,_,_,_,m1,m2,m3,m4,?_⟩;intro f hf;simp only[Ae,D7,or_false]at hf;rcases hf with rfl|rfl|rfl|rfl;exact⟨⟨_,_,_,_,_,_,l1⟩,rfl,rfl,O⟩;exact⟨⟨_,_,_,_,_,_,E⟩,B⟩;exact⟨⟨_,_,_,_,_,_,I⟩,B⟩;refine⟨⟨n',Q,e.Seq,e.Seq,[],e.BG,t1,?_,⟨I.lgF.Dt,by simp,I.lgF.even,I.lgF.odd,I.lgF.laid⟩,?_,?_,?_,by simp;omega,t3,t4,?_,?_⟩,B⟩;have hE4:=I.lgE;have ⟨y1,y2,y3⟩:=ID (DM hE4).2.1;unfold DC Ek at *;rw[y2,y3];rw[y1,y2,y3]at hE4;exact hE4;rw[show (Js g k (Gx e.BG e.Seq)).Laid=[] from B.2.2];trivial;rw[show (Js g k (Gx e.BG e.Seq)).Laid=[] from B.2.2];rfl;show g.Seq=_;rw[show (Js g k (Gx e.BG e.Seq)).Laid=[] from B.2.2,B.2.1];simp;rw[show (([]:List Bo).drop (e.Seq-e.Seq).toNat)=[] by simp];exact B.1;rcases t8 with ⟨t8,_⟩|⟨h0,p0,u1,u2,u3,u4⟩;exact(X t8).elim;exact .inr (.inl ⟨h0,p0,u1,u2,u3,u4⟩)
theorem Xv.vz(h:Xv e):CS e:=by have ⟨_,_,_,_,_,_,h⟩:=h;exact h.lgF
theorem Xv.okE(h:Xv e):DC e=true:=by have ⟨_,_,_,_,_,_,h⟩:=h;exact h.lgE
theorem Xv.AYE(h:Xv e)(p:Int):∃m,ZD e p=some m/\Xv m.1/\m.1.BG=e.BG/\m.1.Seq=e.Seq/\m.1.Laid=e.Laid:=by
 have B:=h.vz;unfold ZD;rw[Ha B,AB];have ⟨n,Q⟩:=Rb 5 (by omega);rw[Q];have go:∀(i j:Int) (m:Nat) (e c:Ai),j=i+1->0<=i->i<4->i<p->Kl e i=some (c,true)->BK (MK p) (m+1) (i,e)=BK (MK p) m (j,c):=by grind[ED,BK,MK,N7,AB,BV,BW,CB,A6]
 have stop:∀(m:Nat) (i:Int) (e:Ai),(i=4\/p<=i)->BK (MK p) (m+1) (i,e)=some (e,true):=by intro m i e h;rw[ED];unfold MK lF;dsimp only;rw[N7,AB,BV,Aa (by split<;>omega),AW]
 by_cases O:p<=0;rw[stop _ _ _ (.inr O)];exact⟨_,rfl,h,rfl,rfl,rfl⟩;by_cases a:e.Laid=[]
 have ⟨c,H,I,J,E,G,a3,a4,y⟩:=Leg.AZH h a;have Y:=y c (by simp);have g:=y H (by simp);have f3:=y I (by simp);have q:=y J (by simp);rw[go 0 1 _ _ _ rfl (by omega) (by omega) (by omega) E];by_cases Z:p<=1;grind;rw[go 1 2 _ _ _ rfl (by omega) (by omega) (by omega) G];by_cases h2:p<=2;rw[stop _ _ _ (.inr (by omega))];exact⟨_,rfl,g.1,g.2.1,g.2.2.1,g.2.2.2.trans a.symm⟩;rw[go 2 3 _ _ _ rfl (by omega) (by omega) (by omega) a3];by_cases h3:p<=3;rw[stop _ _ _ (.inr (by omega))];exact⟨_,rfl,f3.1,f3.2.1,f3.2.2.1,f3.2.2.2.trans a.symm⟩;rw[go 3 4 _ _ _ rfl (by omega) (by omega) (by omega) a4,stop _ _ _ (.inl rfl)];exact⟨_,rfl,q.1,q.2.1,q.2.2.1,q.2.2.2.trans a.symm⟩;have ⟨n1,k1,X,q1,R1,H1,hL⟩:=h;have ⟨n0,k0,q0,H0,hG,hN⟩:=hL.AYH;have S:=(aa B hG.lgE hN hG.lgT.nn3.1 0 rfl).1 a;rw[ED];generalize BK (MK p) (n+1+4)=L;unfold MK;dsimp only;rw[N7,AB,BV,AY (by split<;>omega),S,AB,BW,CI];exact⟨_,rfl,⟨_,_,_,_,_,_,hL⟩,rfl,rfl,rfl⟩
theorem APW(h:Xv w.Ay){l:List Int}{q:AF×Int×Bool}(R:Oa (C2 w.Ay.Ac l) n q) :
 ∃m f,m<=w.Ay.Laid.length/\Xv f/\f.Laid=[]/\f.BG=(Di (w.Ay.Laid.take m) w.Ay.BG).1/\f.Seq=w.Ay.Seq-w.Ay.Laid.length+m /\
  sT w (HM (C2 w.Ay.Ac l) n q)=(⟨f,w.K7++w.Ay.Laid.take m,w.Ez++(Di (w.Ay.Laid.take m) w.Ay.BG).2,w64 (w.MC+1)⟩,0)/\(l.getD 0 0=0->m=0)/\(l.getD 0 0=20000->m=w.Ay.Laid.length)/\svF w (HM (C2 w.Ay.Ac l) n q)=m:=by
 have ⟨X,S,L,q1,R1,H1,hL⟩:=h;have ⟨y,Q,q',H',m,f,e,B,a3,a4,I,J,E,g,j,a⟩:=hL.AaL l;have G:y=n:=Option.some.inj (e.sn.symm.trans R.sn);subst G;have H:(H',q',true)=q:=Option.some.inj (e.sr.symm.trans R.sr);subst H;have hE:=DM hL.lgE;have Y:=hL.lgS;have s1:=g.lgS;have O:=hL.lgB;rw[j,AH,Ag,AT]at s1;have c:svF w (HM (C2 w.Ay.Ac l) y (H',q',true))=m:=by unfold svF;rw[E,AY ⟨hL.lgE,rfl⟩];grind[A6]
 refine⟨m,f,B,⟨_,_,_,_,_,_,g⟩,j,a,by omega,?_,a3,a4,c⟩;grind[sT,B6,Int.toNat_natCast]
theorem AOC.Acb(h:AOC r e):Xv e:=by have hB:=h.nwB;refine⟨0,1,0,0,[],e.BG,.inl ⟨rfl,rfl⟩,h.nwO,h.nwF,?_,?_,?_,by simp,⟨hB,h.nwF.Dt,rfl⟩,h.nwV,rfl,.inl ?_⟩;rw[h.nwL];trivial;rw[h.nwL,h.nwG];rfl;rw[h.nwL,h.nwQ];rfl;show e.Ac.Odd.Safe=(e.Ac.Odd.Data.length:Int)/\fY e.Ac.Odd/\Pre e.Ac.Odd.Data;rw[h.nwD];exact⟨rfl,Vh (by simp),HQ.AZT (q:=0) ⟨hB,h.nwF.Dt,rfl⟩⟩
structure WSm(i:Nat)(w:CJ):Prop where
 wsF:Jv w
 wsL:w.Ay.Laid.length<=8
 wsD:w.K7.length<=8*i
 wsR:w.Ez.length<=8*i
theorem WSm.AaO(h:WSm i w)(hi:i<=1000)(a:FJ):∃r,lU w a=some r/\WSm (i+1) r.1/\Hap w a r:=by have y:=h.wsL;have B:=h.wsD;have E:=h.wsR;have ⟨r,g,e,H⟩:=uW (w:=w) ⟨h.wsF,by omega,by omega⟩ a;have ⟨c,j,q⟩:=AOB h.wsF H h.wsL;exact⟨r,g,⟨e,c,by omega,by omega⟩,H⟩
theorem fV(c:r.AZ.length<=1048576)(i:Nat):WSm i (Iv r).1:=by
 have a:(Iv r).1.Ay.Laid=[]/\(Iv r).1.K7=[]/\(Iv r).1.Ez=[]:=by unfold Iv Iq;split<;>(try split)<;>exact⟨rfl,rfl,rfl⟩
 exact⟨AAN c,by rw[a.1];simp,by rw[a.2.1];simp,by rw[a.2.2];simp⟩
theorem AZs(hN:N<=1000)(I:n<=N){L:List FJ×Int×AP×CJ->AA (List FJ×AP)}{l:List FJ}(e:Bm c)(E:WSm i w)(hi:i<=N)(B:l.length=i)
 (h:i+1<=N->∀l' j w',Bm j->WSm (i+1) w'->l'.length=i+1->∃x,L (l',((i+1:Nat):Int),j,w')=some x/\Bm x.2/\x.1.length<=N) :
 ∃x,Ry n L (l,(i:Int),c,w)=some x/\Bm x.2/\x.1.length<=N:=by
 have q:=E.wsF.KF.Dt;by_cases g:(i:Int)<n;case neg=>unfold Ry ZJ;dsimp only;rw[bFJ g];exact⟨_,rfl,e,by dsimp only;omega⟩
 have h:=h (by omega);have J7:∀c a,Bm c->∃x,ZH L l (i:Int) w (c,a)=some x/\Bm x.2/\x.1.length<=N:=by intro c a e;unfold ZH;dsimp only;rw[D2 (by simp only[AK,AT,B];unfold lim;omega),List.getLast?_concat,AB];have ⟨r,G,H,_⟩:=E.AaO (by omega) ⟨a.Kind,a.Req,a.N_,a.Q4⟩;rw[G,AB,show w64 ((i:Int)+1)=((i+1:Nat):Int) by rw[A6];omega];exact h _ _ _ e H (by simp[B])
 have J6:∀c a,Bm c->∃x,Pt L l (i:Int) w (c,a)=some x/\Bm x.2/\x.1.length<=N:=by intro c a e;unfold Pt;dsimp only;have ⟨o,eo,co⟩:=Mg e 40;have ⟨k,ek,_,_,_,ck⟩:=CC co 7;rw[eo,AB,ek,AB,Be,AW,AW];split;exact J7 _ _ ck;exact J7 _ _ co
 have J8:∀(x:Bo×AP) (y:Int×AP) b,Bm y.2->∃z,ZI L l (i:Int) w x y b=some z/\Bm z.2/\z.1.length<=N:=by intro x y b e;unfold ZI;have ⟨z,ez,cz⟩:=AYN e q;rw[ez,AB,Be,AW,AW];split;exact J6 _ _ cz;exact J6 _ _ e
 have J5:∀(x:Bo×AP) (y:Int×AP) b,Bm y.2->∃z,Uj L l (i:Int) w x y b=some z/\Bm z.2/\z.1.length<=N:=by intro x y b e;unfold Uj;have ⟨k,ek,_,_,_,ck⟩:=CC e 6;have ⟨z,ez,cz,_⟩:=AHe e;rw[ek,AB,ez,AB,Be,Be,Be,Be,AW,AW,AW,AW,AW];split;exact J6 _ _ e;split;exact J6 _ _ ck;split;exact J6 _ _ cz;split;exact J8 _ _ _ e;exact J8 _ _ _ e
 unfold Ry ZJ;dsimp only;have ⟨x,ex,cx⟩:=AVS e q;have ⟨y,ey,_,_,_,cy⟩:=CC cx 10;rw[ex,AB,ey,AB,Be,Be,Be,AW,AW,AW,AW];split;split;exact J5 _ _ _ cy;split;exact J5 _ _ _ cy;exact J5 _ _ _ cy;grind
theorem AVR{N:Nat}(hN:N<=1000){n:Int}(g:n<=N):∀(k i:Nat) (l:List FJ) (c:AP) (w:CJ),N<k+i->i<=N->Bm c->WSm i w->l.length=i->∃x,BK (Ry n) k (l,(i:Int),c,w)=some x/\Bm x.2/\x.1.length<=N
 |0,i,l,c,w,h,e,_,_,_=>absurd h (by omega)|k+1,i,l,c,w,h,e,q,B,y=>by rw[ED];exact AZs hN g q B e y λhi l' j w' a b d=>AVR hN g k (i+1) l' j w' (by omega) hi a b d
theorem AbB(hN:N<=1000)(a:Bm c)(h:WSm 0 w)(g:n<=N):∃x,AJn c w n=some x/\Bm x.2/\x.1.length<=N:=by
 have e:AJn c w n=BK (Ry n) (big+1) ([],((0:Nat):Int),c,w):=by rw[ED];rfl
 rw[e];exact AVR hN g (big+1) 0 _ _ _ (by have:=Pf;omega) (by omega) a h rfl
theorem APb{s:List UInt8}(h:s <+: t){i:Int}(a:(N4 s i).2=true):N4 t i=N4 s i:=by
 have B:=h.length_le;unfold N4 at a ⊢;split at a;rename_i hi;rw[AY hi,ifP];rcases P0 (s.drop i.toNat) i with ⟨q,b,e,y,c⟩|⟨j,c⟩;have g:s.drop i.toNat <+: t.drop i.toNat:=by have ⟨r,E⟩:=h;grind[List.prefix_append]
 rw[c,wJ e (y.trans g)];rw[c]at a;cases a;cases a
theorem AKG{s t:List UInt8}(h:s <+: t):∀(f a:Nat) (i:Int),f<=a->frs f s i <+: frs a t i
 |0,a,i,_=>EN|f+1,0,i,e=>by omega|f+1,a+1,i,e=>by unfold frs;by_cases c:(N4 s i).2=true;rw[AY c,APb h c,AY c];exact(HC _).2 (AKG h f a _ (by omega));rw[Aa c];exact EN
theorem mP{s:List UInt8}(h:s <+: t):DW s <+: DW t:=AKG h _ _ _ (by have:=h.length_le;omega)
theorem ua:∀{l l':List By} (x:Int),l <+: l'->aft x l <+: aft x l'
 | [],l',x,_=>EN|f::l,[],x,h=>by have:=h.length_le;simp at this|f::l,c::l',x,h=>by have ⟨e,a⟩:=C7.1 h;subst e;unfold aft;split;exact ua x a;split;exact(HC _).2 (ua _ a);exact EN
theorem tK:∀{l l':List By},l <+: l'->notes l <+: notes l'
 | [],l',_=>EN|f::l,[],h=>by have:=h.length_le;simp at this|f::l,c::l',h=>by have ⟨e,a⟩:=C7.1 h;subst e;unfold notes;split;exact(HC _).2 (tK a);exact EN
def nF(x:Int)(l:List By):Int:=x+(notes (aft x l)).length
theorem Aaf{l l':List By}(x:Int)(h:l <+: l'):nF x l<=nF x l':=by have:=(tK (ua x h)).length_le;unfold nF;omega
theorem AYG(x:Int)(l:List By):x<=nF x l:=by unfold nF;omega
theorem AL8:∀(l:List By) {x y:Int},x<=y->nF x l<=nF y l
 | [],x,y,h=>by simpa[nF,aft,notes] using h|f::l,x,y,h=>by
  have q:=AYG y (f::l);by_cases c:f.Seq<=x;have a:aft x (f::l)=aft x l:=by rw[aft,AY c]
  have e:aft y (f::l)=aft y l:=by rw[aft,ifP]
  have:=AL8 l h;unfold nF at this ⊢;rw[a,e];exact this;by_cases g:f.Seq=x+1;by_cases j:y=x;rw[j];exact PZ _;have a:aft x (f::l)=f::aft (x+1) l:=by rw[aft,Aa c,AY g]
  have e:aft y (f::l)=aft y l:=by rw[aft,ifP]
  have:=AL8 l (x:=x+1) (y:=y) (by omega);unfold nF at this q ⊢;grind[notes,List.length_cons,List.length_nil];have a:aft x (f::l)=[]:=by rw[aft,Aa c,Aa g]
  have:nF x (f::l)=x:=by unfold nF;rw[a];simp[notes]
  omega
def vA(a:Bp):Int:=match GX ⟨a,a,a⟩ 0 with|some r=>if r.2.2=true then r.2.1 else -1|none=>-1
theorem AXN(s:BY)(k:Int):GX s k=GX ⟨CM s k,CM s k,CM s k⟩ 0:=by unfold GX;rw[EK,EK];rfl
theorem uO{r:AF×Int×Bool}(h:GX s k=some r):vA (CM s k)=if r.2.2=true then r.2.1 else -1:=by unfold vA;rw[<-AXN,h]
theorem AVq(h:fY a):vA a = -1:=by have ⟨r,c,e⟩:=h ⟨a,a,a⟩ 0 rfl;rw[show a=CM ⟨a,a,a⟩ 0 from rfl,uO c,e];rfl
theorem ALC(a:Bp):-1<=vA a:=by have ⟨r,h,_⟩:=Dz ⟨a,a,a⟩ 0;have:=Oq h;rw[show a=CM ⟨a,a,a⟩ 0 from rfl,uO h];split<;>omega
theorem AYK(s:BY):∃n q,Oa s n q/\(n<0->max (vA s.DR) (vA s.Odd) = -1)/\(¬n<0->q.2.1=max (vA s.DR) (vA s.Odd)/\0<=q.2.1):=by have ⟨n,q,h⟩:=Xc s;have ⟨x,c,_⟩:=Dz s 0;have ⟨y,e,_⟩:=Dz s 1;have j:=Oq c;have B:=Oq e;have vx:vA s.DR=_:=uO c;have vy:vA s.Odd=_:=uO e;have a:=h.sn;have g:=h.sr;rw[RV c e]at a;have a:=Option.some.inj a;refine⟨n,q,h,?_,?_⟩;grind[ADb,grind];grind[ADb,grind,Option.some.inj]
def vM(s:BY)(l:List Int):Int:=max (vA (E5 s.DR (l.getD 1 0))) (vA (E5 s.Odd (l.getD 2 0)))
def fM(s:BY)(l:List Int):Int:=nF (vM s l) (DW (E5 s.Log (l.getD 0 0)).Data)
theorem vu(h:Ek s=true)(l:List Int):Ek (C2 s l)=true/\Qd (C2 s l)=true:=by grind[Ek,LS,Qd,C2]
theorem AU2(h:Ek s=true)(l:List Int):∃n q,Oa (C2 s l) n q/\(MA (C2 s l) n q).2=if 0<=vM s l then (fM s l,true) else (0,false):=by have ⟨n,q,j,c,a⟩:=AYK (C2 s l);refine⟨n,q,j,?_⟩;have c:n<0->vM s l = -1:=c;have a:¬n<0->q.2.1=vM s l/\0<=q.2.1:=a;unfold MA;by_cases g:n<0;grind;have ⟨e,y⟩:=a g;rw[AY ⟨(vu h l).1,g⟩,ifP];unfold fM nF;rw[<-e];rfl
theorem QM{e:Ai}(a:CS e)(h:ZR e=some true):DC e=true/\0<=vM e.Ac [20000,20000,20000]/\fM e.Ac [20000,20000,20000]=e.Seq/\0<=vM e.Ac []/\fM e.Ac []=w64 (e.Seq-(e.Laid.length:Int)) /\
 ∃n q,Oa (C2 e.Ac []) n q/\OS (MA (C2 e.Ac []) n q).1 e.BG=true:=by
 cases g:DC e with
 |false=>unfold ZR at h;rw[Ed a,AB,g]at h;cases h
 |true=>
  have E:=(DM g).2.1;have ⟨n,q,y,O⟩:=AU2 E [20000,20000,20000];have ⟨j,q',B,Q⟩:=AU2 E [];have ⟨G,S,X⟩:=KX a [20000,20000,20000];have ⟨m1,m2,m3⟩:=KX a [];have ⟨I,Y,J⟩:=recovered G y;have ⟨s1,Z,L⟩:=recovered m1 B;have H:=(Io e.Laid a.Dt).1;unfold ZR R3 Au at h;simp only[Ed a,g,QN a.Dt a.laid,KO,I,s1,WI G y,AB,AW,Mf J H,Mf L a.Dt,bne]at h;refine⟨rfl,?_⟩;suffices c:0<=vM e.Ac [20000,20000,20000]/\fM e.Ac [20000,20000,20000]=e.Seq/\0<=vM e.Ac []/\fM e.Ac []=w64 (e.Seq-(e.Laid.length:Int))/\OS (MA (C2 e.Ac []) j q').1 e.BG=true from
   ⟨c.1,c.2.1,c.2.2.1,c.2.2.2.1,j,q',B,c.2.2.2.2⟩
  generalize QR (C2 e.Ac [20000,20000,20000]) n q=u at h;revert O Q h;generalize MA (C2 e.Ac [20000,20000,20000]) n q=r;generalize MA (C2 e.Ac []) j q'=r';grind[OS,Di,Be]
theorem dT(g:Jv w)(a:DC w.Ay=true)(l:List Int) :
 Rz w l=some (if 0<=vM w.Ay.Ac l then w64 (w64 (fM w.Ay.Ac l-w.Ay.Seq)+(w.Ay.Laid.length:Int)) else -1):=by have c:=g.KF;have e:=(DM a).2.1;have ⟨n,q,h,v⟩:=AU2 e l;have ⟨j,y,B⟩:=KX c l;unfold Rz;simp only[Ed c,a,KO,AB,(AZ6 j y B h).1];grind[HM,vu,Be]
def AAS(e:Ai)(a:Bp):Prop:=∀p,vA (E5 a 0)<=vA (E5 a p)/\(vA (E5 a p)<=vA (E5 a 20000)\/nF (vA (E5 a p)) (DW e.Ac.Log.Data)<=e.Seq)
theorem AHU(e:Ai)(g:Eu a=true)(h:∀c:Nat,a.Safe<=c->c<a.Data.length->fY ⟨a.Data.take c,(c:Int)⟩):AAS e a:=by intro p;have ⟨c,G,H,y,_⟩:=KJ g p;have ⟨E,I,J,B,j,_⟩:=KJ g 0;have ⟨cf,L,O,f3,_,q⟩:=KJ g 20000;have j:=j rfl;have q:=q rfl;rw[y,B,f3];have Q:=ALC ⟨a.Data.take c,(c:Int)⟩;have S:=ALC ⟨a.Data.take cf,(cf:Int)⟩;grind[AVq]
theorem AHa(y:Jv w)(J:ZR w.Ay=some true)(hE:AAS w.Ay w.Ay.Ac.DR)(hO:AAS w.Ay w.Ay.Ac.Odd) :
 (∀l,∃n,Rz w l=some n/\0<=n/\n<=(w.Ay.Laid.length:Int))/\Rz w []=some 0 /\
 ∀l:List Int,l.getD 0 0=20000->l.getD 1 0=20000->l.getD 2 0=20000->Rz w l=some (w.Ay.Laid.length:Int):=by
 have ⟨j,H,a,z1,X,_⟩:=QM y.KF J;have hB:=DM j;have h:Eu w.Ay.Ac.Log=true:=by have:=hB.2.1;simp only[Ek,AD]at this;exact this.1
 have hq:(w.Ay.Laid.length:Int)<=w.Ay.Seq/\w.Ay.Seq<=1000000:=hB.2.2.2.1;rw[A6]at X;refine⟨λl=>⟨_,dT y j l,?_⟩,?_,λl L O Q=>?_⟩;have ⟨e1,G⟩:=hE (l.getD 1 0);have ⟨o1,S⟩:=hO (l.getD 2 0);have v0:vM w.Ay.Ac []<=vM w.Ay.Ac l:=by unfold vM;simp only[Nm];omega
 have ⟨Y,p1,p2,p3,p4,_⟩:=KJ h 0;have ⟨c,Z,c2,B,_⟩:=KJ h (l.getD 0 0);have p4:=p4 rfl;have lo:fM w.Ay.Ac []<=fM w.Ay.Ac l:=by unfold fM;rw[Nm,p3,B];exact Ob (AL8 _ v0) (Aaf _ (mP (List.take_prefix_take_left (by omega))))
 have up:fM w.Ay.Ac l<=w.Ay.Seq:=by
  have I:fM w.Ay.Ac l<=nF (vM w.Ay.Ac l) (DW w.Ay.Ac.Log.Data):=by unfold fM;rw[B];exact Aaf _ (mP (Dm _ _))
  refine Ob I ?_;have q:fM w.Ay.Ac [20000,20000,20000]=nF (vM w.Ay.Ac [20000,20000,20000]) (DW w.Ay.Ac.Log.Data):=by unfold fM;rw[show [(20000:Int),20000,20000].getD 0 0=20000 from rfl,V3 h]
  rw[q]at a;have hm:vM w.Ay.Ac [20000,20000,20000]=max (vA (E5 w.Ay.Ac.DR 20000)) (vA (E5 w.Ay.Ac.Odd 20000)):=rfl;have e:vM w.Ay.Ac l=vA (E5 w.Ay.Ac.DR (l.getD 1 0))\/vM w.Ay.Ac l=vA (E5 w.Ay.Ac.Odd (l.getD 2 0)):=by unfold vM;omega
  rcases e with e|e<;>rw[e];rcases G with g|g;rw[<-a];exact AL8 _ (by omega);exact g;rcases S with g|g;rw[<-a];exact AL8 _ (by omega);exact g
 rw[ifP,A6 (n:=fM w.Ay.Ac l-w.Ay.Seq),A6];omega;grind[dT,A6];have E:vM w.Ay.Ac l=vM w.Ay.Ac [20000,20000,20000]:=by unfold vM;rw[O,Q];rfl
 have q:fM w.Ay.Ac l=fM w.Ay.Ac [20000,20000,20000]:=by unfold fM;rw[L,E];rfl
 rw[dT y j,E,AY H,q,a,A6 (n:=w.Ay.Seq-w.Ay.Seq),A6];congr 1;omega
structure EP(r:Ad)(i:Nat)(e:Ai):Prop where
 epL:Xv e
 epR:e.BG.AQ=r
 epA:e.BG.Now+e.BG.A3+e.Laid.length<=e.Seq+1
 epS:e.Seq<=i
theorem EP.mono{j:Nat}(h:EP r i e)(a:i<=j):EP r j e:=⟨h.epL,h.epR,h.epA,by have:=h.epS;omega⟩
theorem EP.AS8(h:EP r i e)(x:Bo):EP r (i+1) (IJ e x).1:=by
 have hL:Xv (IJ e x).1:=by have ⟨_,_,_,_,_,_,g⟩:=h.epL;exact⟨_,_,_,_,_,_,g.AcM x⟩
 have c:=h.epR;have B:=h.epA;have E:=h.epS;by_cases j:(IJ e x).2=0;have ⟨_,_,_,a,q,y⟩:=V2 j;refine⟨hL,by rw[a];exact c,?_,by rw[y];omega⟩;rw[a,q,AH,Cf];omega;rw[ADR j]at hL ⊢;exact⟨hL,c,B,by omega⟩
theorem EP.rh4(h:EP r i e):RH e.BG:=GH.1 (DM h.epL.okE).1
theorem EP.AVD(h:EP r i e):EP r i (JV e).1:=by have ⟨_,_,_,_,_,_,g⟩:=h.epL;have ⟨a,y,c⟩:=g.Aa0;have ⟨j,q⟩:=Vw e.Laid h.rh4;have hA:=h.epA;refine⟨⟨_,_,_,_,_,_,a⟩,?_,?_,?_⟩<;>rw[c]<;>dsimp only;rw[(Um e.Laid h.rh4).2];exact h.epR;rw[AT];omega;exact h.epS
theorem EP.call4(h:EP r i e)(x:Bo):EP r (i+1) (AIB e x).1:=by unfold AIB;split;exact h.mono (by omega);exact(h.AS8 x).AVD
theorem EP.AYF(h:EP r i e)(p:Int):∃m,ZD e p=some m/\EP r i m.1:=by have ⟨m,m1,m2,m3,m4,m5⟩:=h.epL.AYE p;exact⟨m,m1,m2,by rw[m3];exact h.epR,by rw[m3,m4,m5];exact h.epA,by rw[m4];exact h.epS⟩
theorem AY5{a:FJ}{x:CJ×Int}(H:Hap w a x)(h:EP r i w.Ay):EP r (i+1) x.1.Ay:=by
 by_cases g:inB a.Kind 1 4=true;case neg=>rw[H.hpK (by simpa using g)];exact h.mono (by omega)
 have c:=h.epL.okE;rw[B6]at g;by_cases G:a.Kind=1;rw[H.hpL c G];exact h.AS8 _;by_cases I:a.Kind=2;rw[H.hpS c I];exact h.AVD.mono (by omega);by_cases J:a.Kind=3;have ⟨m,m1,m2⟩:=H.hpM c J;have ⟨X,L,O⟩:=h.AYF a.N_;rw[L]at m1;cases m1;rw[m2];exact O.mono (by omega);have ⟨n,q,R,E⟩:=H.hpF c (by omega);have ⟨m,f,S,fL,y,f3,e,B,_⟩:=APW h.epL R;have ⟨Q,j⟩:=Vw (w.Ay.Laid.take m) h.rh4;have hA:=h.epA;have hS:=h.epS;rw[Ag]at j;rw[E,B];exact⟨fL,by rw[f3,(Um _ h.rh4).2];exact h.epR,by rw[y,f3,e,AT];omega,by rw[e];omega⟩
theorem AOC.ep4(N:AOC r e)(c:EG r=true):EP r 0 e:=by have a:=N.nwH;unfold E4 at a;rw[AY c]at a;exact⟨N.Acb,N.nwR,by rw[a,N.nwL,N.nwQ];simp,by rw[N.nwQ];decide⟩
def SW(a:Bp):Prop:=∀c:Nat,a.Safe<=c->c<a.Data.length->fY ⟨a.Data.take c,(c:Int)⟩
theorem SW.AOc(h:a.Safe=a.Data.length):SW a:=λc e g=>absurd e (by omega)
theorem Pre.sw4(h:Pre a.Data):SW a:=by intro c _ B;have ⟨g,q,j,t,e⟩:=h;have y:=congrArg List.length e;rw[AH]at y;have:=AHu j (m:=c) (by omega);rwa[<-e,Gz (by omega)]at this
theorem Leg.sw4(h:Leg e n k b q R H):Pre e.Ac.DR.Data/\Pre e.Ac.Odd.Data:=by have ⟨p1,p2⟩:=h.AZg;rcases h.lgT with ⟨rfl,rfl⟩|⟨rfl,rfl⟩;exact⟨p2,p1⟩;exact⟨p1,p2⟩
def ALN(e:Ai):Prop:=ZR e=some true->AAS e e.Ac.DR/\AAS e e.Ac.Odd
theorem zJ(j:CS e)(g:SW e.Ac.DR)(h:SW e.Ac.Odd):ALN e:=by
 intro q;have c:=(DM (QM j q).1).2.1;have a:Eu e.Ac.DR=true/\Eu e.Ac.Odd=true:=by simp only[Ek,AD]at c;exact c.2
 exact⟨AHU e a.1 g,AHU e a.2 h⟩
def ALA(w:Nat):Nat:=if 2147483648<=w then 2*(w ^^^ 3988292384)+1 else 2*w
def unB:Nat->Nat->Nat|0,w=>w|k+1,w=>ALA (unB k w)
theorem AZ0(h:v<2 ^ 32):ALA (La v)=v:=by
 have key:∀a,a<2 ^ 31->2147483648<=a ^^^ 3988292384:=by
  intro a e;have c:(a ^^^ 3988292384).testBit 31=true:=by rw[Nat.testBit_xor,Iz e];rfl
  rcases AV (a ^^^ 3988292384) (2 ^ 31) with g|g;rw[Iz g]at c;cases c;exact g
 unfold La ALA;split;rw[AY (key _ (by omega)),FW,Ks,IY];omega;rw[ifN];omega
theorem ALB:∀(k:Nat) {v:Nat},v<2 ^ 32->unB k (Hm k v)=v
 |0,v,_=>rfl|k+1,v,h=>by show ALA (unB k (Hm k (La v)))=v;rw[ALB k (bE h),AZ0 h]
theorem AWG(v m:Nat):La (v ^^^ 2*m)=La v ^^^ m:=by
 have c:(v ^^^ 2*m) % 2=v % 2:=by have:=J4 (a:=v) (b:=2*m) (n:=1);simpa using this
 have e:(v ^^^ 2*m) / 2=v / 2 ^^^ m:=by have:=Nat.xor_div_two (a:=v) (b:=2*m);rw[this];congr 1;omega
 unfold La;rw[c,e];split;rw[FW,FW,Nat.xor_comm m];rfl
theorem AAi:∀(k v m:Nat),Hm k (v ^^^ 2 ^ k*m)=Hm k v ^^^ m
 |0,v,m=>by simp[Hm]|k+1,v,m=>by show Hm k (La (v ^^^ 2 ^ (k+1)*m))=Hm k (La v) ^^^ m;rw[show 2 ^ (k+1)*m=2*(2 ^ k*m) by rw[Nat.pow_succ,Nat.mul_comm _ 2,Nat.mul_assoc],AWG,AAi k]
theorem AAh:∀(a b v:Nat),Hm a (Hm b v)=Hm (b+a) v
 |a,0,v=>by rw[A1];rfl|a,b+1,v=>by rw[show b+1+a=b+a+1 by omega];exact AAh a b (La v)
def leN:List UInt8->Nat| []=>0|x::l=>x.toNat ^^^ 256*leN l
theorem VA(x:UInt8)(l:List UInt8):leN (x::l) % 256=x.toNat:=by have:=J4 (a:=x.toNat) (b:=256*leN l) (n:=8);have c:=x.toNat_lt;show (x.toNat ^^^ 256*leN l) % 256=_;rw[show (256:Nat)=2 ^ 8 from rfl,this,show 2 ^ 8*leN l % 2 ^ 8=0 from Nat.mul_mod_right ..,IY,Nat.mod_eq_of_lt c]
theorem U9(x:UInt8)(l:List UInt8):leN (x::l) / 256=leN l:=by have:=Nat.xor_div_two_pow (a:=x.toNat) (b:=256*leN l) (n:=8);have c:=x.toNat_lt;show (x.toNat ^^^ 256*leN l) / 256=_;rw[show (256:Nat)=2 ^ 8 from rfl,this,Nat.mul_div_cancel_left _ (by decide),Nat.div_eq_of_lt c,Of]
theorem AOh:∀(l:List UInt8) (v:Nat),HF v l=Hm (8*l.length) (v ^^^ leN l)
 | [],v=>by show v=Hm 0 (v ^^^ 0);rw[IY];rfl
 |x::l,v=>by show HF (Hm 8 (v ^^^ x.toNat)) l=_;rw[AOh l,<-AAi,AAh,AK,FW,show 8*(l.length+1)=8+8*l.length by omega,show leN (x::l)=x.toNat ^^^ 2 ^ 8*leN l from rfl]
theorem pI(e:v<2 ^ 32)(c:leN l<2 ^ 32){k:Nat}(a:k=8*l.length):leN l=v ^^^ unB k (HF v l):=by rw[a,AOh,ALB _ (Nat.xor_lt_two_pow e c),<-FW,Ks,Of]
def tst:List Nat->Nat->Bool| [],m=>m==0|a::l,m=>decide (m % 256<=a)&&tst l (m / 256)
def fc(n:Nat)(f:Nat->Bool):Bool:=match n with|0=>f 0|k+1=>f (k+1)
theorem AaN(n:Nat)(f:Nat->Bool):fc n f=f n:=by cases n<;>rfl
def v1L:List Nat:=[771559538,1526341860,3287511390,3035906504,714134635]
def v2L:List Nat:=[3190222080,3374439830,1344834604,657439930,2805849153,3493522647,1228127597,1043631611,2349895554,4212637460,1646194350,354016824,2500574915,3792473685,2063982575,201518969,3662292996,2907510930,876890408,1128495550]
def AZ7(w:Nat):Bool:=
 !tst [4,13] (4294967295 ^^^ unB 16 w)&&(!tst [4,3,13] (4294967295 ^^^ unB 24 w)&&fc (unB 32 w) λu=>!tst [4,3,13,21] (4294967295 ^^^ u)&&(v1L.all (λv=>!tst [3,13,21,40] (v ^^^ u))&&v2L.all λv=>!tst [13,21,40,40] (v ^^^ u)))
theorem AZ8:(List.range 7).all (λa=>(List.range 6).all λb=>(List.range 5).all λc=>(List.range 5).all λd=>AZ7 (a*16777216+b*65536+c*256+d ^^^ 4294967295))=true:=by kernel_rfl
theorem AZ9:(List.range 5).all (λs=>v1L.contains (HF 4294967295 [UInt8.ofNat s])&&(List.range 4).all λc=>v2L.contains (HF 4294967295 [UInt8.ofNat s,UInt8.ofNat c]))=true:=by kernel_rfl
theorem AYQ(x:UInt8):UInt8.ofNat x.toNat=x:=by simp
theorem APa{n:Nat}(y:n<2 ^ 32){a b c:UInt8}(h:four (n:Int)=[a,b,c,d]):n=a.toNat*16777216+b.toNat*65536+c.toNat*256+d.toNat:=by unfold four at h;simp only[B3,and_true]at h;have ⟨e,g,j,q⟩:=h;have e:=congrArg (λx:UInt8=>(x.toNat:Int)) e;have g:=congrArg (λx:UInt8=>(x.toNat:Int)) g;have j:=congrArg (λx:UInt8=>(x.toNat:Int)) j;have q:=congrArg (λx:UInt8=>(x.toNat:Int)) q;rw[AXh]at e g j q;rw[show (24:Int)=((24:Nat):Int) from rfl,zh n 24 (by omega)]at e;rw[show (16:Int)=((16:Nat):Int) from rfl,zh n 16 (by omega)]at g;rw[show (8:Int)=((8:Nat):Int) from rfl,zh n 8 (by omega)]at j;omega
theorem ATN{s:UInt8}{a b c:UInt8}(he:four ((JR (s::l):Nat):Int)=[a,b,c,d])(hs:s.toNat<=4)(ha:a.toNat<=6)(hb:b.toNat<=5)(hc:c.toNat<=4)(hd:d.toNat<=4)
 (hl:(∃x,l=[x]/\x.toNat<=13)\/∃x y m,l=x::y::m/\x.toNat<=3/\y.toNat<=13/\(m=[]\/∃u k,m=u::k/\u.toNat<=21/\(k=[]\/∃v j,k=v::j/\v.toNat<=40/\(j=[]\/∃w,j=[w]/\w.toNat<=40)))):False:=by
 have hw:=APa (AOg _) he;have h:=AZ8;simp only[B2,Mr]at h;have h:=h a.toNat (by omega) b.toNat (by omega) c.toNat (by omega) d.toNat (by omega);rw[<-hw]at h;have Z:JR (s::l) ^^^ 4294967295=HF 4294967295 (s::l):=by unfold JR;rw[FW,Ks,IY]
 rw[Z]at h;have Q:=AZ9;simp only[B2,Mr,AD]at Q;have ⟨O,H⟩:=Q s.toNat (by omega);rw[AYQ]at O H;unfold AZ7 at h;rw[AaN]at h;simp only[AD,B2,Bool.not_eq_true']at h;have ⟨S,X,Y,I,J⟩:=h;have L:HF 4294967295 [s]<2 ^ 32:=NB _ (by omega);have B:∀x:UInt8,x.toNat<256:=λx=>x.toNat_lt;have L0:leN []=0:=rfl;rcases hl with ⟨x,rfl,hx⟩|⟨x,y,m,rfl,hx,hy,rfl|⟨u,k,rfl,hu,rfl|⟨v,j,rfl,hv,rfl|⟨w,rfl,hw'⟩⟩⟩⟩;have q:=VA s [x];have m1:=VA x [];have e:=U9 s [x];have g:=U9 x [];rw[<-pI (l:=[s,x]) (k:=16) (by omega) (by have:=B x;omega) rfl]at S;simp[tst,q,m1,e,g,L0]at S;omega;have q:=VA s [x,y];have m1:=VA x [y];have m2:=VA y [];have e:=U9 s [x,y];have g:=U9 x [y];have E:=U9 y [];rw[<-pI (l:=[s,x,y]) (k:=24) (by omega) (by have:=B x;omega) rfl]at X;simp[tst,q,m1,m2,e,g,E,L0]at X;omega;have q:=VA s [x,y,u];have m1:=VA x [y,u];have m2:=VA y [u];have m3:=VA u [];have e:=U9 s [x,y,u];have g:=U9 x [y,u];have E:=U9 y [u];have G:=U9 u [];rw[<-pI (l:=[s,x,y,u]) (k:=32) (by omega) (by have:=B x;omega) rfl]at Y;simp[tst,q,m1,m2,m3,e,g,E,G,L0]at Y;omega;have q:=VA x [y,u,v];have m1:=VA y [u,v];have m2:=VA u [v];have m3:=VA v [];have e:=U9 x [y,u,v];have g:=U9 y [u,v];have E:=U9 u [v];have G:=U9 v [];have I:=I _ (DT.1 O);rw[show HF 4294967295 [s,x,y,u,v]=HF (HF 4294967295 [s]) [x,y,u,v] from rfl,<-pI (l:=[x,y,u,v]) (k:=32) L (by have:=B x;omega) rfl]at I;simp[tst,q,m1,m2,m3,e,g,E,G,L0]at I;omega;have q:=VA y [u,v,w];have m1:=VA u [v,w];have m2:=VA v [w];have m3:=VA w [];have e:=U9 y [u,v,w];have g:=U9 u [v,w];have E:=U9 v [w];have G:=U9 w [];have H:=H x.toNat (by omega);rw[AYQ]at H;have J:=J _ (DT.1 H);rw[show HF 4294967295 [s,x,y,u,v,w]=HF (HF 4294967295 [s,x]) [y,u,v,w] from rfl,<-pI (l:=[y,u,v,w]) (k:=32) (NB _ (by omega)) (by have:=B x;omega) rfl]at J;simp[tst,q,m1,m2,m3,e,g,E,G,L0]at J;omega
def bt(n:Int):UInt8:=UInt8.ofNat n.toNat
theorem az(a:0<=n)(h:n<128):((bt n).toNat:Int)=n:=by unfold bt;rw[UInt8.toNat_ofNat'];omega
theorem Z4(a:0<=n)(h:n<128):pN n=[bt n]:=by unfold pN bt;rw[ifP,LU (by omega)]
theorem AHx{m:Nat}(a:0<=n)(h:n<=m)(c:m<128):(bt n).toNat<=m:=by grind[az]
theorem ATh(n:Int)(l:List Int):pL (n::l)=pN n++pL l:=rfl
theorem AKp(n:Nat):∃z l,Fm n=z::l/\(z.toNat<128->l=[]/\z.toNat=n)/\(128<=z.toNat->∃m,l=Fm m):=by rcases AV n 128 with h|h;rw[LU h];exact⟨_,_,rfl,λ_=>⟨rfl,by rw[UInt8.toNat_ofNat'];omega⟩,λg=>by rw[UInt8.toNat_ofNat']at g;omega⟩;rw[TZ h];exact⟨_,_,rfl,λg=>by rw[UInt8.toNat_ofNat']at g;omega,λ_=>⟨_,rfl⟩⟩
theorem AYB(c:C0 h=true):∃n a t,pL (EC h)=n::a::t/\9<=n.toNat/\n.toNat<128/\a.toNat<=5:=by
 have e:=CU (JX c).1;have ⟨t,g⟩:∃t,pL (EC h)=bt ((Hu h.AQ).length:Int)::bt h.AQ.Cj::t:=⟨_,by unfold EC;simp only[A8,Az,BF];rw[ATh,Z4 (by omega) (by simp[Hu];omega)];unfold Hu;simp only[A8,Az,BF];rw[ATh,Z4 (by omega) (by omega)];rfl⟩
 grind[AHx,az,Hu,List.length_append,List.length_cons,List.length_nil]
theorem AaP(L:C0 h=true)(J:R5 h.AQ)(hN:h.Now+h.A3<=22):∃(n a b c d e f g k x u v w:UInt8) (t:List UInt8),pL (EC h)=n::a::b::c::d::e::f::g::k::x::u::v::w::t /\
 9<=n.toNat/\b.toNat<=10/\c.toNat<=6/\d.toNat<=5/\e.toNat<=4/\f.toNat<=3/\g.toNat<=4/\k.toNat<=3/\x.toNat<=13/\u.toNat<=21/\v.toNat<=40/\w.toNat<=40:=by
 have hB:=JX L;have ⟨⟨s1,H⟩,Y,Z,r3,r4,G,r6,r7,r8,r9⟩:=CU hB.1;have ⟨q1,S,X,B,E⟩:=J;have ⟨_,Q,t1,p1,_⟩:=hB;rcases q:h.AQ.AZ with _|⟨y,_|⟨I,_|⟨O,_|⟨x4,l⟩⟩⟩⟩<;>rw[q]at s1 H B E G<;>simp only[AK,AT,Ae,D7,or_false,forall_eq_or_imp,forall_eq]at s1 H B E G;omega;have ⟨t,j⟩:∃t,pL (EC h)=bt 9::bt h.AQ.Cj::bt h.AQ.Room::bt h.AQ.BL::bt h.AQ.Ca::bt h.AQ.CD::bt h.AQ.Rest::bt h.AQ.Cr::bt h.AQ.Da::bt y::bt h.Now::bt h.A3::bt (h.AG.length:Int)::t:=⟨_,by unfold EC Hu;rw[q];simp (disch:=omega) only[A8,Az,BF,AK,AT,ATh,Z4];rfl⟩
 refine⟨_,_,_,_,_,_,_,_,_,_,_,_,_,t,j,by decide,?_,?_,?_,?_,?_,?_,?_,?_,?_,?_,?_⟩<;>exact AHx (by omega) (by omega) (by omega);have ⟨t,j⟩:∃t,pL (EC h)=bt 10::bt h.AQ.Cj::bt h.AQ.Room::bt h.AQ.BL::bt h.AQ.Ca::bt h.AQ.CD::bt h.AQ.Rest::bt h.AQ.Cr::bt h.AQ.Da::bt y::bt I::bt h.Now::bt h.A3::t:=⟨_,by unfold EC Hu;rw[q];simp (disch:=omega) only[A8,Az,BF,AK,AT,ATh,Z4];rfl⟩
 refine⟨_,_,_,_,_,_,_,_,_,_,_,_,_,t,j,by decide,?_,?_,?_,?_,?_,?_,?_,?_,?_,?_,?_⟩<;>exact AHx (by omega) (by omega) (by omega);have ⟨t,j⟩:∃t,pL (EC h)=bt 11::bt h.AQ.Cj::bt h.AQ.Room::bt h.AQ.BL::bt h.AQ.Ca::bt h.AQ.CD::bt h.AQ.Rest::bt h.AQ.Cr::bt h.AQ.Da::bt y::bt I::bt O::bt h.Now::t:=⟨_,by unfold EC Hu;rw[q];simp (disch:=omega) only[A8,Az,BF,AK,AT,ATh,Z4];rfl⟩
 refine⟨_,_,_,_,_,_,_,_,_,_,_,_,_,t,j,by decide,?_,?_,?_,?_,?_,?_,?_,?_,?_,?_,?_⟩<;>exact AHx (by omega) (by omega) (by omega);omega
theorem AVL(e:C0 h=true)(g:inB q 0 1000000=true):∃a b c d,Cu h q=a::b::c::d::(pN q++pL (EC h)):=by rw[AEO e g];exact⟨_,_,_,_,rfl⟩
theorem AY2{s:Int}{b:List UInt8}(h:1<=s/\s<128)(H:1<=b.length/\b.length<=6):∃a c e g,frB s b=bt (5+b.length)::a::c::e::g::bt s::b/\four ((JR (bt s::b):Nat):Int)=[a,c,e,g]:=by
 have ⟨y,B⟩:=mN (q:=s) (b:=b) ⟨by omega,by omega⟩;have j:Fm s.toNat=[bt s]:=LU (by omega);have E:(frT s b).length=5+b.length:=by rw[B,j,AH,Hg];simp;omega
 have G:pN s=[bt s]:=Z4 (by omega) (by omega);refine⟨_,_,_,_,?_,rfl⟩;rw[y,j,E,G,LU (by omega)];rfl
theorem Aaa(J:C0 h=true)(O:R5 h.AQ)(hN:h.Now+h.A3<=22)(L:inB q 0 1000000=true)(q1:q<128){s I:Int}{b E r:List UInt8}(hs:1<=s/\s<=4)(G:1<=b.length/\b.length<=6)(X:1<=I/\I<128)
 (H:1<=E.length/\E.length<=6) (i:Nat) (y:UInt8):¬Cu h q <+: (frB s b++(frB I E++r)).set i y:=by
 intro j;have ⟨n,a,b0,c,d,e,f,g,k,x,u,v,w,t,Y,Q,lb,lc,ld,le,lf,lg,lk,lx,lu,lv,lw⟩:=AaP J O hN;have ⟨p1,p2,p3,p4,hP⟩:=AVL J L;have ⟨c1,c2,c3,c4,hF,_⟩:=AY2 (s:=s) (b:=b) (by omega) G;have ⟨d1,d2,d3,d4,hG,hD⟩:=AY2 (s:=I) (b:=E) (by omega) H;have Z:=(B6.1 L).1;have vs:=az (n:=s) (by omega) (by omega);have vs':=az (n:=I) (by omega) (by omega);have vL:=az (n:=5+E.length) (by omega) (by omega);rw[hP,Z4 Z q1,Y,hF,hG]at j;simp only[A8,Az]at j;generalize bt (5+E.length)=L2 at *;generalize bt I=z at *;by_cases hi:i=5;case neg=>have ⟨o,S⟩:=j;have:=congrArg (λl:List UInt8=>l[5]?) S;rw[HB hi]at this;simp at this;rw[this]at Q;omega
 subst hi;simp only[List.set_cons_succ,List.set_cons_zero,C7]at j;replace j:=j.2.2.2.2.2.2;rcases b with _|⟨x1,_|⟨x2,_|⟨x3,b⟩⟩⟩;simp at G;simp only[A8,Az,C7]at j;obtain⟨-,rfl,rfl,rfl,rfl,rfl,rfl,j⟩:=j;have B:=ATN hD (by omega) (by omega) (by omega) (by omega) (by omega);rcases E with _|⟨y1,_|⟨y2,_|⟨y3,_|⟨y4,_|⟨y5,_|⟨y6,E⟩⟩⟩⟩⟩⟩<;>simp only[AK,AT,A8,Az,C7]at H vL j;omega;obtain⟨rfl,_⟩:=j;exact B (.inl ⟨_,rfl,by omega⟩);obtain⟨rfl,rfl,_⟩:=j;exact B (.inr ⟨_,_,_,rfl,lk,lx,.inl rfl⟩);obtain⟨rfl,rfl,rfl,_⟩:=j;exact B (.inr ⟨_,_,_,rfl,lk,lx,.inr ⟨_,_,rfl,lu,.inl rfl⟩⟩);obtain⟨rfl,rfl,rfl,rfl,_⟩:=j;exact B (.inr ⟨_,_,_,rfl,lk,lx,.inr ⟨_,_,rfl,lu,.inr ⟨_,_,rfl,lv,.inl rfl⟩⟩⟩);grind;omega;simp only[A8,Az,C7]at j;obtain⟨-,-,rfl,rfl,rfl,rfl,rfl,rfl,j⟩:=j;rcases E with _|⟨y1,_|⟨y2,E⟩⟩<;>simp only[AK,AT,A8,Az,C7]at H vL j;omega;obtain⟨rfl,_⟩:=j;exact ATN hD (by omega) (by omega) (by omega) (by omega) (by omega) (.inl ⟨_,rfl,lx⟩);omega;rcases b with _|⟨x4,_|⟨x5,_|⟨x6,_|⟨x7,b⟩⟩⟩⟩<;>simp only[AK,AT,A8,Az,C7]at G j;obtain⟨-,-,-,rfl,j⟩:=j;omega;obtain⟨-,-,-,-,rfl,j⟩:=j;omega;obtain⟨-,-,-,-,-,rfl,j⟩:=j;omega;obtain⟨-,-,-,-,-,-,rfl,j⟩:=j;omega;omega
theorem AZo(B:C0 h=true)(Q:inB q 0 1000000=true)(q1:q<128)(gb:C0 g=true)(H:inB p 0 1000000=true){c:Nat}{y:UInt8}(hc:c<(Cu h q).length)(e:((Cu h q).set i y).take c=Cu g p):p=q:=by
 have J:=B6.1 Q;have p0:=B6.1 H;have O:=(Lw gb H).2;have ⟨a1,a2,a3,a4,eh⟩:=AVL B Q;have ⟨b1,b2,b3,b4,eg⟩:=AVL gb H;have ⟨n,a,t,hn,n1,n2,ha⟩:=AYB B;have ⟨n',a',t',G,n1',n2',ha'⟩:=AYB gb;have hl:c>=20:=by have:=congrArg List.length e;rw[Ag]at this;omega
 have hL:(Cu h q).length=(pL (EC h)).length+5:=by rw[eh,Z4 J.1 q1];generalize pL (EC h)=X;simp only[AK,AH,AT];omega
 rw[hL]at hc;rw[eg,eh,Z4 J.1 q1]at e;have ep:pN p=Fm p.toNat:=AKl ⟨p0.1,by omega⟩;have ⟨z,l,z1,Y,z3⟩:=AKp p.toNat;rw[ep,z1]at e;have vq:=az J.1 q1;obtain⟨c,rfl⟩:∃E,c=E+5:=⟨c-5,by omega⟩;simp only[A8,Az]at e;by_cases Z:i=4;case neg=>have j:=congrArg (λl:List UInt8=>l[4]?) e;rw[List.getElem?_take,ifP,HB (by omega)]at j;have j:bt q=z:=Option.some.inj j;have:=(Y (by rw[<-j];omega)).2;rw[<-j]at this;omega
 subst Z;replace e:y::(pL (EC h)).take c=z::(l++pL (EC g)):=congrArg (List.drop 4) e;simp only[B3]at e;obtain⟨rfl,e⟩:=e;exfalso;have L:pL (EC h)=(pL (EC h)).take c++(pL (EC h)).drop c:=(CL ..).symm;rcases AV y.toNat 128 with I|I;obtain⟨rfl,_⟩:=Y I;rw[e,Az]at L;have ⟨r,r1,S⟩:=nj (nW gb) (nW B) L.symm;have:=Zt gb B r1.symm;rw[this]at S;have:=congrArg List.length S;rw[BD]at this;have e0:(pL []).length=0:=rfl;omega;have ⟨m,hm⟩:=z3 I;have ⟨x,l',x1,x2,_⟩:=AKp m;obtain⟨c,rfl⟩:∃E,c=E+2:=⟨c-2,by omega⟩;rw[hm,x1,hn,G]at e;simp only[Cs,A8,B3]at e;grind[List.cons.injEq]
theorem zU{s:BY}{k:Int}{r:AF×Int×Bool}(h:GX s k=some r)(e:r.2.2=true):C0 r.1=true/\inB r.2.1 0 1000000=true/\(CM s k).Data.take (CM s k).Safe.toNat=Cu r.1 r.2.1:=by
 unfold GX at h;rw[EK,AB,Dw,AB,BW]at h;cases c:Eu (CM s k) with
 |false=>rw[c,CI]at h;cases h;cases e
 |true=>have E:=DZ.1 c;rw[c,CB,D2 E.2]at h;have ⟨q,y,G,B⟩:=K9 (s:=List.take (CM s k).Safe.toNat (CM s k).Data) (by rw[Ag];omega);rw[y,AB]at h;cases h;have ⟨g,_,a⟩:=B.yes e;rcases j:List.take (CM s k).Safe.toNat (CM s k).Data with _|⟨z,l⟩;grind[Xf];rw[j]at a;exact⟨g,(AEP a (by simp)).2,a.symm⟩
theorem AOT(h:∀g p,C0 g=true->inB p 0 1000000=true->a.Data.take a.Safe.toNat≠Cu g p):fY a:=by intro s k e;have ⟨r,c,_⟩:=Dz s k;grind[zU]
def Jk(d:List UInt8):Prop:=∀h q,C0 h=true->R5 h.AQ->h.Now+h.A3<=22->inB q 0 1000000=true->q<128->¬Cu h q <+: d
theorem Jk.few{d:List UInt8}(c:d.length<20):Jk d:=by intro h q a _ _ g _ e;grind[Lw]
theorem Jk.cut{d c:List UInt8}(h:Jk d)(G:c <+: d):Jk c:=λg q a e j y B E=>h g q a e j y B (E.trans G)
def JF(l:List UInt8):Prop:=l.length<20\/∃s b s' b' r,l=frB s b++(frB s' b'++r)/\(1<=s/\s<=4)/\(1<=b.length/\b.length<=6)/\(1<=s'/\s'<128)/\(1<=b'.length/\b'.length<=6)
theorem JF.Aa1(h:JF l)(i:Nat)(y:UInt8):Jk (l.set i y):=by rcases h with h|⟨s,b,L,J,r,rfl,E,G,H,I⟩;exact Jk.few (by rw[An];exact h);exact λg q a c e j B=>Aaa a c e j B E G H I i y
theorem JF.jk4(h:JF l):Jk l:=by have:=h.Aa1 l.length 0;rwa[List.set_eq_of_length_le (Aj _)]at this
def OkS(s:BY):Prop:=∀e r,EP r 20 e->R5 r->ALN {e with Ac:=s}
theorem APZ(h:EP r i e)(a:Sml 60000 s):CS {e with Ac:=s}:=by have c:=h.epL.vz;exact⟨c.Dt,Ax a.1 (by omega),Ax a.2.1 (by omega),Ax a.2.2 (by omega),c.laid⟩
theorem dC(g:Sml 60000 s)(a:SW s.DR)(c:SW s.Odd):OkS s:=λe r h _=>zJ (APZ h g) a c
theorem AZZ(a:Sml 60000 s)(h:Ek s=false):OkS s:=by intro e r hE _ hS;have c:=(DM (QM (APZ hE a) hS).1).2.1;grind
theorem ATW(hs:Sml 60000 s)(S:Jk s.DR.Data)(X:Jk s.Odd.Data):OkS s:=by
 intro e r hE Y hS;exfalso;have ⟨Z,_,_,z1,J,n,q,R,c⟩:=QM (APZ hE hs) hS;have hB:=DM Z;have B:=hB.2.2.2.1;have j:=hB.2.1;dsimp only at j B z1 J R c;have ⟨y,q',R',v1,v2⟩:=AYK (C2 s []);have L:y=n:=Option.some.inj (R'.sn.symm.trans R.sn);subst L;have O:q'=q:=Option.some.inj (R'.sr.symm.trans R.sr);subst O;have H:¬y<0:=by intro g;have:vM s [] = -1:=v1 g;omega
 have ⟨w1,w2⟩:=v2 H;have w1:q'.2.1=vM s []:=w1;have hc:=(vu j []).1;have h:y=0\/y=1:=by have ⟨m,m1,_,m2⟩:=PX (C2 s []);rw[R.sn]at m1;cases m1;omega
 have ok:q'.2.2=true:=Two.bd3 (Two.ot3 h) R.sn R.sr;have ⟨E,Q,G⟩:=zU R.sr ok;have hA:=hE.epA;have hQ:=hE.epS;have hR:=GH.1 E;unfold MA at c;rw[AY ⟨hc,H⟩]at c;unfold OS at c;simp only[AD,beq_iff_eq]at c;have ⟨_,_,hr,hN,hT,_⟩:=c;have I:=oI.1 hr;have a1:=(Vw (notes (aft q'.2.1 (DW (C2 s []).Log.Data))) hR).1;rw[(Um _ hR).2,hE.epR]at I;have hx:=AYG (vM s []) (DW (E5 s.Log (([]:List Int).getD 0 0)).Data);have hz:vM s []<=fM s []:=hx;rw[J,A6]at hz;have pr:∀a:Bp,Cu q'.1 q'.2.1=(E5 a 0).Data.take (E5 a 0).Safe.toNat->Jk a.Data->False:=by intro a ha hj;refine hj q'.1 q'.2.1 E (by rw[I];exact Y) (by omega) Q (by omega) ?_;grind[List.take_prefix,E5,List.prefix_refl]
 rcases h with rfl|rfl;exact pr s.DR G.symm S;exact pr s.Odd G.symm X
theorem Leg.AaM(h:Leg e n k b q R H)(g:b<=p)(j:p<=b+R.length):nF p (DW e.Ac.Log.Data)=e.Seq:=by
 have ⟨m,m1,m2,_,m4⟩:=mO h.lgJ (c:=(jT (b+1) (R++e.Laid)).length) (Aj _);have m5:=m4 (R++e.Laid).length (Aj _) (by rw[Cd];exact Aj _);rw[Cd,BH m5]at m2;have a:DW e.Ac.Log.Data=jF 0 (b+1) (R++e.Laid):=by rw[h.lgD];exact m2
 unfold nF;rw[a,yk (gh h.lgJ) (by omega),BD,AH,h.lgS];omega
def Spl(d d':List UInt8):Prop:=d'.length<=d.length+2/\((d=[]/\d'.length=2)\/∃i y,d'=d.set i y)
theorem AME{r:Ad}{e:Ai}(hE:EP r 16 e){d:List UInt8}(j:Spl e.Ac.DR.Data d):OkS ⟨e.Ac.Log,⟨d,e.Ac.DR.Safe⟩,e.Ac.Odd⟩:=by
 have ⟨n,k,b,q,R,H,hL⟩:=hE.epL;have Y:=(DM hL.lgE).2.1;simp only[Ek,AD,DZ]at Y;have ⟨hd0,j⟩:=j;have E:Sml 60000 ⟨e.Ac.Log,⟨d,e.Ac.DR.Safe⟩,e.Ac.Odd⟩:=⟨by dsimp only;omega,by dsimp only;omega⟩;have hO:=hL.sw4.2.sw4;have calm:e.Ac.DR.Safe=e.Ac.DR.Data.length->OkS ⟨e.Ac.Log,⟨d,e.Ac.DR.Safe⟩,e.Ac.Odd⟩:=by intro hc;rcases j with ⟨g1,g2⟩|⟨i,y,rfl⟩;refine dC E (λc c1 L=>AOT λg p h1 h2 h3=>?_) hO;grind[Lw,List.length_take];exact dC E (SW.AOc (by rw[An];exact hc)) hO
 have h:CM e.Ac 0=e.Ac.DR:=rfl;have X:CM e.Ac 1=e.Ac.Odd:=rfl;rcases hL.lgT with ⟨rfl,rfl⟩|⟨rfl,rfl⟩;exact calm (by rw[<-h,hL.lgM];rfl);rcases hL.lgO with ⟨o,_⟩|⟨h0,p,_,o,_⟩|⟨p,p1,p2,o⟩;exact calm o;exact calm (by rw[<-h,o];rfl);rw[h]at o;have hB:=hL.lgB;have hS:=hL.lgS;have hQ:=hE.epS;have hH:=hL.lgH.ALS (mid R b q p) (p:=p) (B6.2 (by omega));have a:=(Lw hH.hqB hH.hqQ).2;rw[o]at j E ⊢;dsimp only at j E ⊢;rcases j with ⟨g1,_⟩|⟨i,y,rfl⟩;rw[g1]at a;exact absurd a (by simp);intro f r' hf _ G;have B:=APZ hf E;have ⟨fb,f1,f2,_⟩:=QM B G;have fst:=(DM fb).2.1;simp only[Ek,AD]at fst;refine⟨?_,AHU _ fst.2.2 hO⟩;have Q:=fst.2.1;intro x;have ⟨c,_,L,c3,_⟩:=KJ Q x;have ⟨c0,_,_,d3,O,_⟩:=KJ Q 0;have ⟨cf,_,f4,f3,_,I⟩:=KJ Q 20000;have O:=O rfl;have I:=I rfl;dsimp only at L c3 d3 O f3 I;obtain rfl:c0=0:=by omega
 have v0:vA ⟨((Cu (Di (mid R b q p) H).1 p).set i y).take 0,((0:Nat):Int)⟩ = -1:=by refine AVq (AOT λg p' h1 h2 h3=>?_);have:=(Lw h1 h2).2;rw[<-h3]at this;simp at this
 have vc:=ALC ⟨((Cu (Di (mid R b q p) H).1 p).set i y).take c,(c:Int)⟩;have vf:=ALC ⟨((Cu (Di (mid R b q p) H).1 p).set i y).take cf,(cf:Int)⟩;rw[c3,d3,f3,v0];refine⟨vc,?_⟩;by_cases S:c=cf;left;rw[S];exact PZ _;generalize hA:(⟨((Cu (Di (mid R b q p) H).1 p).set i y).take c,(c:Int)⟩:Bp)=A at *;have ⟨z,z1,_⟩:=Dz ⟨A,A,A⟩ 0;have hv:vA A=_:=uO (s:=⟨A,A,A⟩) (k:=0) z1;cases Z:z.2.2 with
 |false=>left;rw[hv,Z];exact vf|true=>
  right;have ⟨u1,u2,J⟩:=zU z1 Z;have J:A.Data.take A.Safe.toNat=Cu z.1 z.2.1:=J;rw[<-hA,Ah,Ms,Nat.min_self]at J;rw[An]at I;have:=AZo hH.hqB hH.hqQ (by omega) u1 u2 (by rw[An]at L;omega) J;rw[hv,Z,AY rfl,this,hL.AaM (by omega) p2,<-hL.AaM hB.2.1 hB.2.2,<-f2];have al:=V3 fst.1;have ao:=V3 fst.2.2;have so:CM (⟨e.Ac.Log,⟨(Cu (Di (mid R b q p) H).1 p).set i y,0⟩,e.Ac.Odd⟩:BY) 1=Gx H q:=X.symm.trans hL.lgM;have vo:vA (Gx H q)=q:=by have:=uO (s:=⟨Gx H q,Gx H q,Gx H q⟩) (k:=0) (hL.lgH.rdF rfl);exact this
  have vl:vA (E5 e.Ac.Odd 20000)=q:=by have so:e.Ac.Odd=Gx H q:=so;rw[so,NM (Xx H q) rfl];exact vo
  show nF q (DW e.Ac.Log.Data)<=nF (max (vA (E5 _ 20000)) (vA (E5 e.Ac.Odd 20000))) (DW (E5 e.Ac.Log 20000).Data);rw[al,vl];exact AL8 _ (by omega)
theorem EP.AKj(h:EP r i e):ALN e:=by have ⟨_,_,_,_,_,_,hL⟩:=h.epL;exact zJ hL.lgF hL.sw4.1.sw4 hL.sw4.2.sw4
theorem EP.fj(h:EP r i e):Ek e.Ac=true/\Sml 20000 e.Ac:=by have a:=(DM h.epL.okE).2.1;refine⟨a,?_⟩;simp only[Ek,AD,DZ]at a;exact⟨by omega,by omega,by omega⟩
theorem AZq{R:Ad}{x:Int×AP}(y:0<=x.1)(H:x.1<=3)(B:Bm x.2)(E:EP R 13 e):∃r,BK (l9 x) big (0,x.2,e)=some r/\EP R 16 r.1/\Bm r.2:=by have ⟨n,G⟩:=AX y;refine H4 (n:=n) (λi (v:AP×Ai)=>((i:Int),v.1,v.2)) (λi v=>Bm v.1/\EP R (13+i) v.2) _ (by omega) ?_ (v:=(x.2,e)) ⟨B,E⟩;rintro L i ⟨c,e⟩ ⟨h,a⟩ hi j;unfold l9 LG;dsimp only at h a j ⊢;rw[G,dec_lt];rcases AV i n with g|g;have ⟨q,eq,cq⟩:=AVS h a.epL.vz.Dt;rw[brT g,eq,AB,VT a.epL.vz,AB,Bh g];exact j (_,_) ⟨cq,a.AS8 _⟩ g;rw[bFJ];exact⟨_,rfl,a.mono (by omega),h⟩
theorem pD(j:Bm c):∃r R,sM c=some r/\EP R 16 r.1/\Bm r.2:=by
 unfold sM;have ⟨a,e1,s1,⟨J,_⟩,Z⟩:=AHf j;have ⟨H,e3,a3,_,Y,c3⟩:=CC Z 14;rw[e1,AB,fD (by omega),AB,e3,AB];have hb3:=Y (by omega);have ⟨n,hn⟩:=AX a3;have ⟨I,N0⟩:=Aah (r:=a.1) (by omega) J;rw[N0.nwN];suffices h:∃r,BK (lr H) big (((0:Nat):Int),H.2,I)=some r/\EP a.1 16 r.1/\Bm r.2 from
  have ⟨r,h1,h2,h3⟩:=h
  ⟨r,_,h1,h2,h3⟩
 refine H4 (n:=n) (λi (v:AP×Ai)=>((i:Int),v.1,v.2)) (λi v=>Bm v.1/\EP a.1 i v.2) _ (by omega) ?_ (v:=(H.2,I)) ⟨c3,N0.ep4 J⟩;rintro L i ⟨c,e⟩ ⟨G,B⟩ hi O;have gf:=B.epL.vz;unfold lr;dsimp only at G B O ⊢;rw[hn,dec_lt];rcases AV i n with g|g;rw[brT g];have X:∀c e,Bm c->EP a.1 (i+1) e->∃r,ZN L (i:Int) (c,e)=some r/\EP a.1 16 r.1/\Bm r.2:=by intro c e j E;unfold ZN;rw[Bh g];exact O (_,_) ⟨j,E⟩ g
 have S:∀c e,Bm c->EP a.1 (i+1) e->∃r,ZM L (i:Int) (c,e)=some r/\EP a.1 16 r.1/\Bm r.2:=by intro c e j E;unfold ZM;dsimp only;have ⟨y,ey,cy⟩:=Mg j 8;rw[ey,AB,Be];split;have ⟨z,ez,_,_,_,cz⟩:=CC cy 5;have ⟨m,em,fm⟩:=E.AVD.AYF z.1;rw[dQ E.epL.vz,AB,ez,AB,em,AB,AW];exact X _ _ cz fm;rw[AW];exact X _ _ cy E
 have Q:∀c q,Bm c->∃r,ZL L (i:Int) e (c,q)=some r/\EP a.1 16 r.1/\Bm r.2:=by intro c q j;unfold ZL;dsimp only;have ⟨y,ey,cy⟩:=Mg j 5;rw[ey,AB,Be];split;rw[VT gf,AB,AW];exact S _ _ cy (B.AS8 _);rw[ANs gf,AB,AW];exact S _ _ cy (B.call4 _)
 have ⟨q,eq,cq⟩:=AVS G gf.Dt;have ⟨o,eo,co⟩:=Mg cq 2;rw[eq,AB,eo,AB,Be];split;have ⟨l,el,cl⟩:=AYN co gf.Dt;rw[el,AB,AW];exact Q _ _ cl;rw[AW];exact Q _ _ co;rw[bFJ];unfold ACf;dsimp only;have ⟨y,ey,ay,_,by_,cy⟩:=CC G 4;rw[ey,AB];exact AZq ay (by have:=by_ (by omega);omega) cy (B.mono (by omega))
theorem AVU(B:Bm c):∃x,AJv c=some x/\CS x.1/\ALN x.1/\Bm x.2:=by
 unfold AJv;have ⟨e,R,ee,fe,ce⟩:=pD B;have ⟨k,ek,_,_,_,ck⟩:=CC ce 20;have h:=fe.epL.vz;have hL:e.1.Laid.length<=8:=(DM fe.epL.okE).2.2.1;have ⟨_,_,_,_,_,_,g⟩:=fe.epL;have w1:=g.sw4.1.sw4;have E:=g.sw4.2.sw4;have fin:∀x:Ai×AP,CS x.1->x.1.Ac.DR=e.1.Ac.DR->x.1.Ac.Odd=e.1.Ac.Odd->Bm x.2->∃y,some x=some y/\CS y.1/\ALN y.1/\Bm y.2:=
  λx a b c d=>⟨x,rfl,a,zJ a (by rw[b];exact w1) (by rw[c];exact E),d⟩
 rw[ee,AB,ek,AB,Be];split;have ⟨z,ez,cz,_⟩:=IE ck (l:=[-1,0,999999,1000000,1000001,9223372036854775807]) (by simp);rw[ez,AB,AW];exact fin _ ⟨h.Dt,h.log,h.even,h.odd,h.laid⟩ rfl rfl cz;rw[Be];split;have ⟨z,ez,cz⟩:=AVT ck h.Dt;rw[ez,AB,DX,AW];exact fin _ ⟨h.Dt,h.log,h.even,h.odd,by simp;omega⟩ rfl rfl cz;rw[Be];split;have ⟨z,ez,cz,_⟩:=IE ck (l:=[-1,0,30000]) (by simp);rw[ez,AB,AW];exact fin _ ⟨h.Dt,h.log,h.even,h.odd,h.laid⟩ rfl rfl cz;rw[Be];split;have ⟨z,ez,fz,cz⟩:=AHd ck;rw[ez,AB,AW];exact fin _ ⟨fz,h.log,h.even,h.odd,h.laid⟩ rfl rfl cz;rw[Be];split;refine H4 (n:=9) (λi (v:Ai)=>((i:Int),v)) (λi v=>EP R (16+i) v) _ (by omega) ?_ (v:=e.1) fe;intro L i v j hi q;unfold ACi LG;dsimp only at j q ⊢;rw[show (9:Int)=((9:Nat):Int) from rfl,dec_lt];rcases AV i 9 with g|g;rw[brT g,VT j.epL.vz,AB,Bh g];exact q _ (j.AS8 _) g;rw[bFJ];exact⟨_,rfl,j.epL.vz,j.AKj,ck⟩;rw[Be];split;have ⟨z,ez,lz,cz⟩:=Acu ck;rw[ez,AB,AW];exact fin _ ⟨h.Dt,by dsimp only;omega,h.even,h.odd,h.laid⟩ rfl rfl cz;rw[AW];exact fin _ h rfl rfl ck
theorem fj(a:s.Log.Data.length<=60000:=by first|omega|(dsimp only;omega))(c:s.DR.Data.length<=60000:=by first|omega|(dsimp only;omega))(e:s.Odd.Data.length<=60000:=by first|omega|(dsimp only;omega)):Sml 60000 s:=⟨a,c,e⟩
theorem AK6(j:Bm c)(I:l.length<=1048576):∃x,eB c l=some x/\Spl l x.1/\Bm x.2:=by
 unfold eB be;rw[Vj,BV];split;rename_i h;have ⟨x,ex,E,cx⟩:=dU j 2 (by omega);rw[show (2:Int)=((2:Nat):Int) from rfl,ex,AB];exact⟨_,rfl,⟨by dsimp only;omega,.inl ⟨h,E⟩⟩,cx⟩;rename_i g;have q:0<l.length:=by cases l with|nil=>exact absurd rfl g|cons=>simp
 have ⟨a,ea,y,_,a3,ca⟩:=CC j (l.length:Int);have ⟨b,eb,G,_,H,cb⟩:=CC ca 255;have:=a3 (by omega);have ⟨k,B⟩:=AX y;have e:k<l.length:=by omega
 rw[ea,AB,B,BT e,AB,AB,eb,AB,AB,AB];exact⟨_,rfl,⟨by simp,.inr ⟨_,_,rfl⟩⟩,cb⟩
def JI(i:Nat)(l:List UInt8)(q:Int):Prop:=(1<=q/\q<=6+i)/\(i=0->l=[]/\q<=4)/\(i=1->∃s b,l=frB s b/\(1<=s/\s<=4)/\1<=b.length/\b.length<=6) /\
 (2<=i->∃s b s' b' r,l=frB s b++(frB s' b'++r)/\(1<=s/\s<=4)/\(1<=b.length/\b.length<=6)/\(1<=s'/\s'<128)/\(1<=b'.length/\b'.length<=6))
theorem JI.AZ5(h:JI i l q)(hi:i<=100){b:List UInt8}(G:1<=b.length/\b.length<=6){q':Int}(Q:1<=q'/\q'<=7+i):JI (i+1) (l++frB q b) q':=by have ⟨L,O,B,E⟩:=h;refine⟨by omega,λg=>by omega,λg=>?_,λg=>?_⟩;grind;by_cases y:i=1;obtain⟨s,a,rfl,c,e⟩:=B y;exact⟨s,a,q,b,[],by rw[CO],c,e,by omega,G⟩;obtain⟨s,a,J,j,r,rfl,c,e,H,I⟩:=E (by omega);exact⟨s,a,J,j,r++frB q b,by simp only[BF],c,e,H,I⟩
theorem JI.jf4(h:JI i l q):JF l:=by have ⟨c,e,j,a⟩:=h;by_cases g:2<=i;exact .inr (a g);left;grind[AY2,List.length_cons]
theorem AbE(J:Bm c):∃x,AJx c=some x/\x.1.length<=1000/\Jk x.1/\Bm x.2:=by
 unfold AJx;have ⟨a,ea,G,_,a3,ca⟩:=CC J 5;have ⟨b,eb,Y,_,H,cb⟩:=CC ca 4;have:=a3 (by omega);have:=H (by omega);have ⟨n,O⟩:=AX G;rw[ea,AB,eb,AB,A6];refine H4 (n:=n) (λi (v:List UInt8×Int×AP)=>(v.1,v.2.1,(i:Int),v.2.2)) (λi v=>v.1.length<=80*i/\JI i v.1 v.2.1/\Bm v.2.2) _ (by omega) ?_ (v:=([],_,b.2)) ⟨by simp,⟨by dsimp only;omega,λ_=>⟨rfl,by dsimp only;omega⟩,λg=>absurd g (by decide),λg=>absurd g (by decide)⟩,cb⟩;rintro L i ⟨l,q,c⟩ ⟨I,gj,e⟩ hi B;unfold ACk;dsimp only at I gj e B ⊢;have hq:=gj.1;rw[O,dec_lt];rcases AV i n with g|g;have ⟨x,ex,S,_,X,cx⟩:=CC e 6;have:=X (by omega);have ⟨m,hm⟩:=AX S;have ⟨y,ey,ly,cy⟩:=dU cx (m+1) (by omega);have ⟨o,eo,co⟩:=Mg cy 8;have Q:w64 (1+x.1)=((m+1:Nat):Int):=by rw[A6];omega
 have Z:=AFJ q y.1;rw[brT g,ex,AB,Q,ey,AB,Mc,AB,DX,eo,AB,Be];unfold mA;split;have ⟨z,ez,z1,_,z3,cz⟩:=CC co 6;have:=z3 (by omega);rw[ez,AB,AW];rw[Bh g,A6 (n:=1+z.1)];exact B (_,_,_) ⟨by simp only[AH];omega,gj.AZ5 (by omega) (by omega) (by dsimp only;omega),cz⟩ g;rw[AW];rw[Bh g,A6 (n:=q+1)];exact B (_,_,_) ⟨by simp only[AH];omega,gj.AZ5 (by omega) (by omega) (by dsimp only;omega),co⟩ g;rw[bFJ];unfold ACj;dsimp only;have j:=gj.jf4;have ⟨x,ex,_,_,_,cx⟩:=CC e 4;rw[ex,AB,Be];split;have ⟨y,ey,y1,_,E,cy⟩:=CC cx (w64 ((l.length:Int)+1));rw[A6]at E;have:=E (by omega);rw[ey,AB,DX];exact⟨_,rfl,by simp only[Ag];omega,j.jk4.cut (Dm _ _),cy⟩;rw[Be];split;have ⟨y,ey,⟨ly,sy⟩,cy⟩:=AK6 cx (l:=l) (by omega);rw[ey,AB];refine⟨_,rfl,by dsimp only;omega,?_,cy⟩;dsimp only;rcases sy with ⟨_,h⟩|⟨i,z,h⟩;exact Jk.few (by omega);rw[h];exact j.Aa1 _ _;exact⟨_,rfl,by dsimp only;omega,j.jk4,cx⟩
theorem AHc(a:Bm c):∃x,sO c=some x/\x.1.Data.length<=1000/\Jk x.1.Data/\Bm x.2:=by
 have g:∀(l:List UInt8) c,l.length<=1000->Jk l->Bm c->∃x,ZO (l,c)=some x/\x.1.Data.length<=1000/\Jk x.1.Data/\Bm x.2:=by intro l c q e a;unfold ZO;dsimp only;have ⟨y,ey,_,_,_,cy⟩:=CC a (w64 ((l.length:Int)+1));rw[ey,AB];exact⟨_,rfl,q,e,cy⟩
 have B:∃x,AJy c=some x/\x.1.Data.length<=1000/\Jk x.1.Data/\Bm x.2:=by
  unfold AJy;have ⟨x,ex,cx,mx⟩:=AbG a (l:=[[],[97],[115,111,109,101,32,98,121,116,101,115],[0,1,2,3]]) (by simp);have ⟨o,eo,co⟩:=Mg cx 3;rw[ex,AB,eo,AB,Be];split;have ⟨y,ey,ly,e,cy⟩:=AbE co;rw[ey,AB,AW];exact g _ _ ly e cy;rw[AW];have E:x.1.length<=10:=by simp only[Ae,D7,or_false]at mx;rcases mx with h|h|h|h<;>rw[h]<;>simp
  exact g _ _ (by omega) (Jk.few (by omega)) co
 unfold sO;have ⟨x,ex,lx,jx,cx⟩:=B;have ⟨k,ek,_,_,_,ck⟩:=CC cx 12;have j:∀b,∃y,Ul x k b=some y/\y.1.Data.length<=1000/\Jk y.1.Data/\Bm y.2:=by intro b;unfold Ul ZP;rw[Be];split<;>rw[AW]<;>exact⟨_,rfl,lx,jx,ck⟩
 rw[ex,AB,ek,AB,Be];split;have ⟨y,ey,cy,_⟩:=IE ck (l:=[-1,w64 ((x.1.Data.length:Int)+1),9223372036854775807,-9223372036854775808]) (by simp);rw[ey,AB,AW];exact⟨_,rfl,lx,jx,cy⟩;rw[Be];split;rw[AW];exact j _;rw[Be];split<;>rw[AW]<;>exact j _
theorem AVW(j:Bm c):∃x,AJz c=some x/\Sml 60000 x.1/\OkS x.1/\Bm x.2:=by
 unfold AJz;have ⟨e,R,ee,fe,ce⟩:=pD j;have ⟨k,ek,_,_,_,ck⟩:=CC ce 8;have ⟨_,_,_,_,_,_,g⟩:=fe.epL;have ⟨p1,p2⟩:=g.sw4;have ⟨B,s1,E,G⟩:=fe.fj;have fin:∀(s:BY) c,Bm c->Sml 60000 s->(Sml 60000 s->OkS s)->∃x,KE (c,s)=some x/\Sml 60000 x.1/\OkS x.1/\Bm x.2:=λs c j q y=>⟨_,rfl,q,y q,j⟩
 rw[ee,AB,ek,AB,Be];split;have ⟨z,ez,lz,cz⟩:=AK6 ck (l:=e.1.Ac.DR.Data) (by omega);have:=lz.1;rw[ez,AB,AW];exact fin _ _ cz fj λ_=>AME fe lz;rw[Be];split;rw[AW];exact fin _ _ ck fj λh=>dC h p1.sw4 p1.sw4;rw[Be];split;have ⟨z,ez,_,_,_,cz⟩:=CC ck (w64 ((e.1.Ac.DR.Data.length:Int)+1));rw[ez,AB,AW];exact fin _ _ cz fj λh=>dC h (Pre.sw4 p1) p2.sw4;rw[Be];split;unfold APL;have ⟨a,ea,la,ja,ca⟩:=AHc ck;have ⟨b,eb,lb,jb,cb⟩:=AHc ca;have ⟨d,ed,ld,jd,cd⟩:=AHc cb;rw[ea,AB,eb,AB,ed,AB,AB,AW];exact fin _ _ cd fj λh=>ATW h jb jd;rw[Be];split<;>rw[AW];exact fin _ _ ck fj λh=>AZZ h (by simp[Ek,Eu,inB]);exact fin _ _ ck fj λh=>dC h p1.sw4 p2.sw4
theorem AXb(a:Bm c):∃x,AJm c=some x/\Sml 60000 x.1/\OkS x.1/\Bm x.2:=by
 have q:∀c s,Bm c->Sml 40000 s->SW s.DR->SW s.Odd->∃x,ZG (c,s)=some x/\Sml 60000 x.1/\OkS x.1/\Bm x.2:=by
  rintro c s a ⟨s1,G,H⟩ w1 I;have fin:∀(t:BY) c,Bm c->Sml 60000 t->t.DR=s.DR->t.Odd=s.Odd->∃x,KE (c,t)=some x/\Sml 60000 x.1/\OkS x.1/\Bm x.2:=λt c a j B E=>⟨_,rfl,j,dC j (by rw[B];exact w1) (by rw[E];exact I),a⟩
  unfold ZG;dsimp only;have ⟨k,ek,_,_,_,ck⟩:=CC a 8;rw[ek,AB,Be];split;have ⟨x,ex,_,_,_,cx⟩:=CC ck 20;have ⟨y,ey,cy⟩:=AbD cx;have J:=AFJ (w64 (1+x.1)) y.1;rw[ex,AB,ey,AB,Mc,AB,DX,AW];exact fin _ _ cy (fj (by simp only[AH];omega)) rfl rfl;rw[Be];split;have ⟨z,ez,lz,cz⟩:=AZt ck (l:=s.Log.Data) (by omega);rw[ez,AB,AW];exact fin _ _ cz fj rfl rfl;rw[Be];split;have ⟨x,ex,t,o,cx⟩:=AVW ck;rw[ex,AB];exact⟨_,rfl,t,o,cx⟩;rw[AW];exact fin _ _ ck fj rfl rfl
 unfold AJm;have ⟨e,R,ee,fe,ce⟩:=pD a;have ⟨_,_,_,_,_,_,g⟩:=fe.epL;have ⟨h,s1,G,H⟩:=fe.fj;have ⟨o,eo,co⟩:=Mg ce 4;rw[ee,AB,eo,AB,Be];split;have ⟨k,ek,ck,_⟩:=AHe co;rw[ek,AB,KO,AB,AW];have L:=PO e.1.Ac.Log (k.1.getD 0 0);have O:=PO e.1.Ac.DR (k.1.getD 1 0);have Q:=PO e.1.Ac.Odd (k.1.getD 2 0);simp only[Ek,AD]at h;exact q _ _ ck ⟨by unfold C2;dsimp only;omega,by unfold C2;dsimp only;omega,by unfold C2;dsimp only;omega⟩ (SW.AOc (LS h.2.1 _).2) (SW.AOc (LS h.2.2 _).2);rw[AW];exact q _ _ co ⟨by omega,by omega,by omega⟩ g.sw4.1.sw4 g.sw4.2.sw4
theorem AXa(G:Bm c)(J:n<=(20:Nat)):∃r R,AJo c n=some r/\R5 R/\EP R 20 r.1.Ay/\WSm 20 r.1/\Bm r.2:=by
 unfold AJo;have ⟨x,ex,sx,⟨j,E⟩,cx⟩:=AHf G;have ⟨l,el,cl,Q⟩:=AbB (N:=20) (by omega) cx (fV (r:=x.1) (by omega) 0) J;have ⟨e,N⟩:=Aah (r:=x.1) (by omega) j;have I:(Iv x.1).1.Ay=e:=by unfold Iv;rw[N.nwN];rfl
 rw[ex,AB,AGo (by omega),AB,el,AB];suffices h:∃r,BK (lW l) big (((0:Nat):Int),(Iv x.1).1)=some r/\EP x.1 20 r.1.Ay/\WSm 20 r.1/\Bm r.2 from
  have ⟨r,y,B⟩:=h
  ⟨r,_,y,E,B⟩
 refine H4 (n:=l.1.length) (λi (v:CJ)=>((i:Int),v)) (λi v=>EP x.1 i v.Ay/\WSm i v) _ (by omega) ?_ (v:=(Iv x.1).1) ⟨by rw[I];exact N.ep4 j,fV (by omega) 0⟩;rintro L i v ⟨q,a⟩ hi O;unfold lW ACa be;dsimp only at O ⊢;rw[dec_lt];rcases AV i l.1.length with g|g;have ⟨r,S,X,H⟩:=a.AaO (by omega) l.1[i];grind[decide_eq_true,CB,BT,AB,Bh,AY5];rw[bFJ];exact⟨_,rfl,q.mono (by omega),⟨a.wsF,a.wsL,by have:=a.wsD;dsimp only;omega,by have:=a.wsR;dsimp only;omega⟩,cl⟩
theorem AbH(j:Bm c):∃x,AJp c=some x/\x.1.length<=10/\Bm x.2:=by unfold AJp;have ⟨k,ek,y,_,B,ck⟩:=CC j 4;have:=B (by omega);have ⟨n,q⟩:=AX y;rw[ek,AB];refine H4 (n:=n) (λi (v:List Int×AP)=>(v.1,(i:Int),v.2)) (λi v=>v.1.length=i/\Bm v.2) _ (by omega) ?_ (v:=([],k.2)) ⟨rfl,ck⟩;rintro L i ⟨l,c⟩ ⟨a,e⟩ hi h;unfold ACb ZS;dsimp only at a e h ⊢;rw[q,dec_lt];rcases AV i n with g|g;have ⟨x,ex,_,_,_,cx⟩:=CC e 13;rw[brT g,ex,AB,DX,Bh g];exact h (_,_) ⟨by simp[a],cx⟩ g;rw[bFJ];grind
theorem AVV(q:Bm c):∃x,AJq c=some x/\x.1.length<=10/\(∀y∈x.1,y.Ids.length<=10)/\Bm x.2:=by unfold AJq;have ⟨k,ek,E,_,G,ck⟩:=CC q 6;have:=G (by omega);have ⟨n,B⟩:=AX E;rw[ek,AB];refine H4 (n:=n) (λi (v:List Ck×AP)=>(v.1,(i:Int),v.2)) (λi v=>v.1.length=i/\(∀y∈v.1,y.Ids.length<=10)/\Bm v.2) _ (by omega) ?_ (v:=([],k.2)) ⟨rfl,by simp,ck⟩;rintro L i ⟨l,c⟩ ⟨e,h,a⟩ hi j;unfold ACd ACc;dsimp only at e a h j ⊢;rw[B,dec_lt];rcases AV i n with g|g;have ⟨x,ex,_,_,_,cx⟩:=CC a 20;have ⟨y,ey,ly,cy⟩:=AbH cx;rw[brT g,ex,AB,ey,AB,DX,Bh g];refine j (_,_) ⟨by simp[e],?_,cy⟩ g;grind[List.mem_singleton];rw[bFJ];exact⟨_,rfl,by dsimp only;omega,h,a⟩
theorem AXc{s:List UInt8}(G:s.length<=1048576):∃x,AJr s=some x/\Bm x.1/\Jv x.2/\ALN x.2.Ay:=by
 unfold AJr;have ⟨c,ec,B⟩:=Acv G;have ⟨n,en,J⟩:∃n,AIp s 4 20=some n/\n<=20:=by unfold AIp;rw[BV];split;exact⟨_,rfl,by omega⟩;exact⟨_,rfl,by omega⟩
 have ⟨b,eb,I,g,j,cb⟩:=CC B n;have ⟨w,R,ew,y,hE,a,cw⟩:=AXa cb (n:=b.1) (by rcases Int.lt_or_le 0 n with h|h;have:=j h;omega;rw[g h];omega);have ⟨k,ek,_,_,_,ck⟩:=CC cw 16;have hF:=a.wsF;have hD:=a.wsD;rw[ec,AB,en,AB,eb,AB,ew,AB,ek,AB,Be];split;have ⟨e,ee,fe,oe,ce⟩:=AVU ck;rw[ee,AB,AW];exact⟨_,rfl,ce,⟨fe,hF.done,hF.AHO,hF.ids⟩,oe⟩;rw[Be];split;have ⟨q,eq,cq⟩:=AVS ck hF.KF.Dt;rw[eq,AB,DX,AW];exact⟨_,rfl,cq,⟨hF.KF,by simp;omega,hF.AHO,hF.ids⟩,hE.AKj⟩;rw[Be];split;have ⟨q,eq,L,H,cq⟩:=AVV ck;rw[eq,AB,AW];exact⟨_,rfl,cq,⟨hF.KF,hF.done,by dsimp only;omega,λr E=>by have:=H r E;omega⟩,hE.AKj⟩;rw[Be];split;have ⟨t,et,st,ot,ct⟩:=AXb ck;rw[et,AB,AW];exact⟨_,rfl,ct,⟨APZ hE st,hF.done,hF.AHO,hF.ids⟩,ot _ _ hE y⟩;rw[AW];exact⟨_,rfl,ck,hF,hE.AKj⟩
theorem pX{s:List UInt8}(_:okL okT s):KV s=some true:=by
 unfold KV;rw[AS7,AB,BV];split;rfl;have ⟨x,ex,cx,fx,ox⟩:=AXc (s:=s) (by omega);have ⟨k,ek,ck,lk⟩:=AHe cx;have Z:AJ2 s=some (x.2,k.1):=by unfold AJ2;rw[ex,AB,ek,AB]
 have ⟨n,G,n2⟩:=Xw fx k.1;have ⟨b,a,_⟩:=AEx fx.KF;rw[Z,AB,n2,AB,G,AB,bne_self_eq_false,CI,a,AB];cases Y:b with
 |false=>rfl|true=>
  rw[Y]at a;have ⟨O,Q,S⟩:=AHa fx a (ox a).1 (ox a).2;have im:∀l m,Rz x.2 l=some m->mB x.2 l=some m:=by intro l m h;have ⟨z,z1,z2⟩:=Xw fx l;rw[z2,<-z1,h]
  have ⟨m,m1,m2,m3⟩:=O k.1;rw[G]at m1;cases m1;have J:∀v:List Int,v.getD 0 0=20000->v.getD 1 0=20000->v.getD 2 0=20000->Ku (x.2,k.1) n v=some true:=by intro v X y B;unfold Ku Au;rw[im _ _ Q,AB,show ((0:Int)==0)=true from rfl,CB,BV,AY m2,BV,AY m3,im _ _ (S v X y B),AB,AW];simp
  have I:∀v:List Int,3<=v.length->v.length<=7->Kt (x.2,k.1) n v=some true:=by intro v h3 h7;unfold Kt;have ⟨r,r1,r2⟩:=H4 (n:=v.length) (F:=Kw (x.2,k.1) n) (λi (v:List Int)=>(v,(i:Int))) (λi u=>u.length=v.length/\∀j,j<i->u.getD j 0=20000) (λr=>r=true) (by omega) (by rintro L i u ⟨u1,q⟩ hi e;unfold Kw be;dsimp only at e ⊢;rw[dec_lt];rcases AV i u.length with g|g;rw[brT g,BT g,AB,AB,Bh g,Ah];refine e _ ⟨by rw[An];exact u1,λj E=>?_⟩ (by omega);by_cases c:i=j;subst c;simp[List.getElem?_set,g];rw[BB,HB c,<-BB];exact q j (by omega);rw[bFJ];exact⟨_,J u (q 0 (by omega)) (q 1 (by omega)) (q 2 (by omega)),rfl⟩) (v:=v) ⟨rfl,λj E=>absurd E (by omega)⟩;rw[show (0:Int)=((0:Nat):Int) from rfl,r1,r2]
  have H:∀(f:Nat) (v:List Int),0<f->3<f+v.length->v.length<=4->BK (Kv (x.2,k.1) n) f v=some true:=by
   intro f;induction f with
   |zero=>exact λv h=>absurd h (by omega)|succ f e=>intro v _ y B;rw[ED];unfold Kv;rw[BV];split;rw[DX];exact e _ (by omega) (by rw[AH,Cf];omega) (by rw[AH,Cf];omega);rw[AW];exact I v (by omega) (by omega)
  rw[B5,CI,DX,Az];exact H _ _ (by have:=Pf;omega) (by have:=Pf;omega) lk
end Lv.P
