/- Plain laws about what the program computes. -/
import Derived.Test.YtcmjfplpdjflnaaGreatKEb
import Derived.Test.YtcmjfplpdjflnaaGreatPFb
noncomputable section
set_option linter.unusedVariables false
set_option linter.unusedSimpArgs false
set_option linter.unusedSectionVars false
open Bool renaming and_eq_true->AF,true_eq_false->DZ
open Int renaming toNat_natCast->Ad
open List renaming any_cons->LC,getD_eq_getElem?_getD->BO,getElem?_eq_getElem->AT,length_take->BS,nil_append->B9
open Nat renaming le_succ->C2,le_trans->Aw,lt_or_ge->AZ
namespace Lv.P
open Lv Go
theorem Ik{α:Type}(p:α->Bool):∀(l:List α) (s:Nat),(atF p l s = -1/\l.eraseP p=l/\l.any p=false) \/
 ∃k,∃h:k<l.length,atF p l s=((s+k:Nat):Int)/\l.eraseP p=l.take k++l.drop (k+1)/\l.any p=true/\p l[k]=true
 | [],s=>.inl ⟨rfl,rfl,rfl⟩|x::l,s=>by
  by_cases h:p x=true
  .grind[atF]
  .have g:p x=false:=by simpa using h
   rcases Ik p l (s+1) with ⟨a,c,e⟩|⟨k,q,a,c,e,j⟩
   .grind[atF]
   grind[atF]
theorem TU{l:List Af}(a:l.length<=1048576)(id:Int):du l id=some (l.eraseP (fun x=>x.Id==id),l.any fun x=>x.Id==id):=by
 grind[lim,du,QP,AB,BQ,Ik,SA,Ah,B8]
theorem UI{l:List AN}(a:l.length<=1048576)(id:Int):ma l id=some (atF (fun x=>x.Id==id) l 0):=by
 grind[ma,Pc,yy,BK,BJ,AB,yx,BL,AV]
theorem ky{l:List AN}(g:l.length<=1048576)(id:Int):AHa l id=some (l.eraseP (fun x=>x.Id==id)):=by
 have hlim:lim=268435456:=rfl;unfold AHa;rw[UI g,AB,BQ];rcases Ik (fun x:AN=>x.Id==id) l 0 with ⟨a,c,e⟩|⟨k,h,a,c,e,_⟩
 .grind[B8]
 grind[Ah,B8]
def l8(l:BE)(n a b c d:Int):BE×Bool:=
 let l':BE:=⟨l.Total,w64 (l.Db+w64 (a*n)),w64 (l.Ee+w64 (b*n)),w64 (l.FY+w64 (c*n)),w64 (l.Fx+w64 (d*n))⟩
 if Et l=true/\inB n 0 60=true/\Et l'=true then (l',true) else (l,false)
theorem Jr(l:BE)(n a b c d:Int):VQ l n a b c d=some (l8 l n a b c d):=by
 unfold VQ dm l8
 grind[OF,GB,AB,AV,B7]
theorem lA(l:BE)(n:Int):AHX l n=some (l8 l n 0 0 0 1):=by unfold AHX;rw[Jr,AB]
theorem Zs(l:BE)(n:Int):AHb l n=some (l8 l n 0 0 0 (-1)):=by unfold AHb;rw[Jr,AB]
theorem j5(l:BE)(n:Int):zq l n=some (l8 l n (-1) 1 0 0):=by unfold zq;rw[Jr,AB]
theorem jy(l:BE)(n:Int):AHZ l n=some (l8 l n 1 (-1) 0 0):=by unfold AHZ;rw[Jr,AB]
theorem j6(l:BE)(n:Int):AHr l n=some (l8 l n 0 (-1) 1 0):=by unfold AHr;rw[Jr,AB]
theorem jz(l:BE)(n:Int):AHp l n=some (l8 l n 1 0 (-1) 0):=by unfold AHp;rw[Jr,AB]
def isP(p:BH)(x:BH):Bool:=x.At==p.At&&(x.Id==p.Id&&true)
def S6(w:A0)(p:BH):A0×Bool:=
 if H5 w=true/\1<=p.At then (⟨w.Ao.set (p.At.tmod 9).toNat ((w.Ao.getD (p.At.tmod 9).toNat []).eraseP (isP p))⟩,(w.Ao.getD (p.At.tmod 9).toNat []).any (isP p)) else (w,false)
theorem TW{w:A0}(q:DW w)(p:BH):mg w p=some (S6 w p):=by
 have hlim:lim=268435456:=rfl;have J:=q.1;have y:=q.2;unfold mg S6;rw[SN q,AB,KJ q,AB,BB,AV,AV,B7];by_cases c:H5 w=true
 .rw[AX c];unfold dq;rw[BQ];by_cases E:p.At<1
  .rw[AX E,AU (by omega)]
  .rw[AU E,AX ⟨c,by omega⟩];obtain⟨m,S,e⟩:=Zm (n:=p.At) (by omega);have hW:=Dr.1 c;have a:m<w.Ao.length:=by have:=hW.1;omega
   have I:w.Ao[m].length<=1048576:=Aw (Ir a) y;rw[e,Ad];have H:w.Ao.getD m []=w.Ao[m]:=by rw[BO,AT a];rfl
   rw[H];generalize g:w.Ao[m]=s at I ⊢;have key:=C1 (F:=VR w p w) (n:=s.length) (fun i (_:Unit)=>(i:Int)) (fun _ _=>True)
    (fun i _=>some (if (s.drop i).any (isP p)=true then ((⟨w.Ao.set m (s.take i++(s.drop i).eraseP (isP p))⟩:A0),true) else (w,false))) (by omega) ?_ (v:=()) trivial
   .have key':A3 (VR w p w) big 0=_:=key;rw[key'];simp only[List.drop_zero,List.take_zero,B9];split
    .rename_i h;rw[h]
    .rename_i h;have B:s.any (isP p)=false:=by simpa using h
     have G:s.eraseP (isP p)=s:=List.eraseP_of_forall_not fun x O=>by
      have:=List.any_eq_false.1 B x O;simpa using this
     rw[B,G,<-g,List.set_getElem_self]
   .intro L i _ _ hi Q;unfold VR zO;rw[e,BJ a,AB,g];rcases AZ i s.length with h|h
    .rw[B4 h,BK];simp only[AB,BJ h,Ad];rw[DR h];show br (isP p s[i]) _ _=_;cases j:isP p s[i] with
     |true=>
      rw[BK,Bt h (by omega),B8 ⟨by omega,by omega⟩,B8 ⟨by omega,by omega⟩,B8 (by rw[BS];simp;omega),B8 (by rw[List.length_append,BS];simp;omega)];simp only[LC,j,Bool.true_or,if_true,List.eraseP_cons_of_pos j,B9,Ad]
     |false=>
      rw[BL,Bt h (by omega),Q () trivial h];simp only[LC,j,Bool.false_or,List.eraseP_cons_of_neg (show ¬isP p s[i]=true by rw[j];simp),List.take_succ_eq_append_getElem h,List.append_assoc,List.singleton_append]
    .have:i=s.length:=by omega
     subst this;rw[C0,BL,AV,List.drop_length];rfl
 .rw[AU c,AU (by simp[c])];rfl
def F4(h:AE)(id:Int):Int:=atF (fun x:AN=>x.Id==id) h.AG 0
theorem Gq{h:AE}(a:B0 h)(id:Int):LL h id=some (F4 h id):=by
 unfold LL;rw[UI a.CP,AB];rfl
def vX:Ab:=⟨⟨0,0,0,0,0⟩,[],⟨[]⟩⟩
def tk:AN:=⟨0,0,0,0,0,0,0,0,0,0⟩
theorem FG{h:AE}{k:Int}(a:0<=k)(c:k<h.AH.length):at? h.AH k=some (h.AH.getD k.toNat vX):=by
 grind[BJ]
theorem XA{h:AE}{k:Int}(a:0<=k)(c:k<h.AG.length):at? h.AG k=some (h.AG.getD k.toNat tk):=by
 grind[BJ]
theorem QI{h:AE}{id:Int}(a:0<=F4 h id):F4 h id<h.AG.length/\(h.AG.getD (F4 h id).toNat tk).Id=id:=by
 grind[F4,Ik]
def JW(h:AE)(k:Int):Int:=w64 ((h.AH.getD k.toNat vX).AW.FY-(h.AH.getD k.toNat vX).AW.Fx)
theorem TY{h:AE}{k:Int}(a:0<=k)(c:k<h.AH.length):zf h k=some (JW h k):=by
 unfold zf;rw[FG a c,AB,AB];rfl
def WE(h:AE)(q:Bp):Int:=
 if (h.AH.length:Int)<=q.AY\/(h.AH.length:Int)<=q.Bi\/q.Bi=q.AY then 4
 else if inB q.BA 1 h.AQ.BA=false then 5
 else if h.AQ.Cb<=q.Co then 6
 else if inB q.Id 1 999=false then 7
 else if 0<=F4 h q.Id then 8
 else if h.AQ.Room<=DF h.AG q.AY then 9
 else if 0<=q.Bi/\JW h q.Bi<q.BA then 10
 else if 1000000<h.Az then 11 else 0
theorem ua{h:AE}(a:B0 h)(q:Bp):AHk h q=some (WE h q):=by
 have j:=a.CP;have g:∀b,((h.AH.length:Int)<=q.Bi->b=true)->RD h q b=some (if b=true then 4
  else if inB q.BA 1 h.AQ.BA=false then 5
  else if h.AQ.Cb<=q.Co then 6
  else if inB q.Id 1 999=false then 7
  else if 0<=F4 h q.Id then 8
  else if h.AQ.Room<=DF h.AG q.AY then 9
  else if 0<=q.Bi/\JW h q.Bi<q.BA then 10
  else if 1000000<h.Az then 11 else 0):=by
  intro b c;unfold RD eO;cases b with
  |true=>rfl|false=>
   have hF:q.Bi<h.AH.length:=by
    by_cases e:(h.AH.length:Int)<=q.Bi
    .cases c e
    .omega
   simp only[BL,GB,AB,BB,B7,Bool.false_eq_true,if_false,ge_iff_le,gt_iff_lt,decide_eq_true_eq,Gq a,QN (show h.AG.length<2 ^ 58 by omega),AV];cases inB q.BA 1 h.AQ.BA
   .rfl
   .grind[TY,AB]
 grind[AHk,WE,BQ,AV]
def AOR(p:AN)(now:Int):Bool:=p.State==2&&decide (p.Cq<=now)
theorem AUn(p:AN)(now:Int):AHl p now=some (AOR p now):=by
 unfold AHl eP AOR;rw[AV,AV,Cp]
def Jw(h:AE)(id:Int):Int:=
 if F4 h id<0 then 7
 else if (h.AG.getD (F4 h id).toNat tk).State≠2 then 13
 else if AOR (h.AG.getD (F4 h id).toNat tk) h.Now=true then 14 else 0
theorem R9{h:AE}(a:B0 h)(id:Int):AHm h id=some (Jw h id):=by
 unfold AHm Jw
 grind[Gq,AB,XA,QI,AUn,B7]
def HT(h:AE)(q:Bp):Int:=
 if inB q.Kind 1 7=false then 2
 else if KN q=false then 3
 else if q.Kind=1 then WE h q
 else if q.Kind=2 then if F4 h q.Id<0 then 7 else 0
 else if q.Kind=3 then if (h.AH.length:Int)<=q.AY then 4 else if inB q.BA 1 60=false then 5 else if JW h q.AY<q.BA then 12 else 0
 else if q.Kind=4\/q.Kind=5 then Jw h q.Id
 else if q.Kind=6 then if 1000000<=h.Now then 15 else 0
 else if q.Kind=7 then if h.AQ.Cx<=q.Id then 16 else if h.BC.getD q.Id.toNat 0<0/\h.BF.length=0 then 17 else 0
 else 0
def verdict(h:AE)(q:Bp):Int:=if D8 h=true then HT h q else 1
theorem Gr{h:AE}(y:B0 h)(q:Bp):RE h q=some (verdict h q):=by
 unfold RE verdict;rw[Io y,AB,BB,B7];by_cases j:D8 h=true
 .rw[AX j,AX j];unfold HT;rw[GB,AB,BB,B7];cases inB q.Kind 1 7
  .rfl
  .simp only[if_true,DZ,if_false];rw[j7,AB,BB,B7];cases e:KN q
   .rfl
   .simp only[if_true,DZ,if_false,B7,beq_iff_eq,AV];by_cases g:q.Kind=1
    .rw[AX g,AX g,ua y,AB]
    .rw[AU g,AU g];by_cases E:q.Kind=2
     .rw[AX E,AX E,Gq y,AB];simp only[decide_eq_true_eq];split<;>rfl
     .rw[AU E,AU E];by_cases B:q.Kind=3
      .rw[AX B,AX B];have Y:0<=q.AY:=by
        unfold KN at e;rw[AU g,AU (by omega),AX B]at e;simp only[AF,Ql,CQ]at e;exact e.1.1
       simp only[ge_iff_le,decide_eq_true_eq,GB,AB,Bool.not_eq_true'];by_cases a:(h.AH.length:Int)<=q.AY
       .rw[AX a,AX a]
       .rw[AU a,AU a];cases inB q.BA 1 60
        .rfl
        .simp only[DZ,if_false];rw[TY Y (by omega),AB];by_cases X:JW h q.AY<q.BA<;>simp[X]<;>rfl
      .rw[AU B,AU B];unfold eQ;by_cases c:q.Kind=4\/q.Kind=5
       .rw[AX c];rcases c with c|c
        .simp only[c,if_true,beq_self_eq_true,BK,R9 y,AB]
        .simp only[c,if_true,beq_self_eq_true,BK,R9 y,AB];rfl
       .have I:q.Kind≠4:=fun h=>c (.inl h)
        have J:q.Kind≠5:=fun h=>c (.inr h)
        rw[AU c,AU I];have O:(q.Kind==5)=false:=by simpa using J
        rw[O,BL]
        try simp only[B7,beq_iff_eq,AV,ge_iff_le,decide_eq_true_eq]
        by_cases G:q.Kind=6
        .rw[AX G,AX G];split<;>rfl
        .rw[AU G,AU G];by_cases H:q.Kind=7
         .rw[AX H,AX H];have hR:=PI j;have hi:0<=q.Id:=by
           unfold KN at e;rw[AU g,AX (by omega)]at e;simp only[AF,Ql,CQ]at e;exact e.1.1
          by_cases a:h.AQ.Cx<=q.Id
          .rw[AX a,AX a]
          .rw[AU a,AU a];obtain⟨n,Z⟩:=Int.eq_ofNat_of_zero_le hi;have L:n<h.BC.length:=by have:=hR.Rq;omega
           rw[Z,BJ L,AB,Ad,BO,AT L,Option.getD_some];unfold eR Oh;simp only[B7,AV,beq_iff_eq];by_cases Q:h.BC[n]<0<;>by_cases S:h.BF.length=0<;>simp[Q,S]
         .rw[AU H,AU H];rfl
 .rw[AU j,AU j]
def Qp(l:List Int)(k:Int):List Int:=if l.any (fun y=>y==k)=true then l else l++[k]
theorem Iq{l:List Int}(a:l.length<=1048576)(k:Int):VF l k=some (Qp l k):=by
 grind[lim,VF,Qp,B8,UJ,AB,B7]
def cbn(h:AE)(k:Int):Ab:=h.AH.getD k.toNat vX
def Cu(h:AE)(k:Int)(c:Ab):AE:=⟨h.AQ,h.Now,h.Az,h.AG,h.AH.set k.toNat c,h.BF,h.BC⟩
theorem Tg{h:AE}{k:Int}(a:0<=k)(c:k<h.AH.length):cbn h k∈h.AH:=by
 grind[cbn,List.getElem?_eq_getElem,List.getElem_mem]
theorem Zi{h:AE}(e:B0 h){p:AN}(a:0<=p.AY)(c:p.AY<h.AH.length) :
 ZB h p=some (Cu h p.AY ⟨(cbn h p.AY).AW,put ltE (EX h.AQ p h.Now).1 (cbn h p.AY).Row,(cbn h p.AY).Bq⟩):=by
 have hlim:lim=268435456:=rfl;have j:=e.Dw;have g:=(e.D1 _ (Tg a c)).1;unfold ZB;rw[Wl (by omega),AB,FG a c,AB,AB];show bd (AC7 (cbn h p.AY).Row _) _=_;rw[j9 (by omega),AB,AB,AB];rfl
theorem Wp{h:AE}(g:B0 h){p:AN}(a:0<=p.AY)(c:p.AY<h.AH.length) :
 dt h p=some (Cu h p.AY ⟨(l8 (cbn h p.AY).AW p.BA 1 (-1) 0 0).1,(cbn h p.AY).Row,(S6 (cbn h p.AY).Bq ⟨p.Cq,p.Id⟩).1⟩):=by
 have e:=(g.D1 _ (Tg a c)).2;unfold dt;rw[FG a c,AB,AB,jy,AB];show bd (mg (cbn h p.AY).Bq _) _=_;rw[TW e,AB,AB,AB,B8 ⟨rfl,⟨by omega,by omega⟩,trivial⟩];rfl
def gone(h:AE)(p:AN):AE:=
 let h':AE:=⟨h.AQ,h.Now,h.Az,h.AG.eraseP (fun x=>x.Id==p.Id),h.AH,h.BF,h.BC⟩
 if 0<=p.Bi then Cu h' p.Bi ⟨(l8 (cbn h p.Bi).AW p.BA 0 0 0 (-1)).1,(cbn h p.Bi).Row,(cbn h p.Bi).Bq⟩ else h'
theorem MW{h:AE}(e:B0 h){p:AN}(c:p.Bi<h.AH.length):TF h p=some (gone h p):=by
 unfold TF dv gone;rw[ky e.CP,AB,BQ];by_cases a:0<=p.Bi
 .rw[AX a,AX a,FG a c,AB,AB,Zs,AB,AB,AB,AV];rfl
 .rw[AU a,AU a,AV]
def TH(h:AE)(k n:Int):AE:=
 let h':=Cu h k ⟨(l8 (cbn h k).AW n 1 0 (-1) 0).1,(cbn h k).Row,(cbn h k).Bq⟩
 ⟨h'.AQ,h'.Now,h'.Az,h'.AG,h'.AH,Qp h.BF k,h'.BC⟩
theorem Wq{h:AE}(e:B0 h){k:Int}(a:0<=k)(c:k<h.AH.length)(n:Int):mn h k n=some (TH h k n):=by
 unfold mn TH;rw[FG a c,AB,AB,jz,AB,AB,AB,Iq e.todo,AB];rfl
def KA(a b:AN):Bool:=decide (a.Id<b.Id)
def KO(l:List AN)(p:AN):List AN:=
 if 0<=atF (fun x:AN=>x.Id==p.Id) l 0 then l.set (atF (fun x:AN=>x.Id==p.Id) l 0).toNat p else put KA p l
theorem OG{l:List AN}(c:l.length<=1048576)(p:AN):cz l p=some (KO l p):=by
 have hlim:lim=268435456:=rfl;unfold cz KO;rw[UI c,AB,B8 (by omega),BQ,B9];split
 .grind[atF,AN,Ik,BJ,AB]
 .rename_i e;have a:∀i:Nat,i<=l.length->c9 l p i=some (l.take i++p::l.drop i):=by
   grind[c9,Ce,Ki,Kj,Kk,Kl,J4,Km,Kn,Fq,uw,Int.toNat_natCast,List.length_take,B8,List.length_cons,List.length_nil,List.length_append,List.length_drop]
  refine Rv (lt:=KA) some (by omega) ?_ ?_
  .intro L i h;unfold dB VE;rw[B4 h,BK,BJ h,AB,AV,AV,a i (by omega)];rfl
  .intro L;unfold dB VE;rw[C0,BL,AV,BL,AV,a _ (Nat.le_refl _)];simp
def EH(r:Aa)(p:AN)(now:Int):AN×Bool:=
 if Dp r p now=true/\p.State=2/\w64 (p.DH+1)<r.Ca then (⟨p.Id,p.AY,p.Bi,p.BA,p.Co,p.Since,p.Az,1,w64 (now+r.Rest),w64 (p.DH+1)⟩,true) else (tk,false)
theorem ACV{r:Aa}(e:r.AW.length<2 ^ 62)(p:AN)(now:Int):zi r p now=some (EH r p now):=by
 unfold zi VY EH;rw[MV e,AB];simp only[AV,BB,B7,ge_iff_le,decide_eq_true_eq,bne_iff_ne,ne_eq];cases Dp r p now
 .rfl
 .by_cases a:p.State=2
  .by_cases c:r.Ca<=w64 (p.DH+1)
   .have:¬w64 (p.DH+1)<r.Ca:=by omega
    simp[a,c,this];rfl
   grind
  .simp[a];rfl
structure UR(n:Nat)(c:Ab):Prop where
 row:c.Row.length<=n
 Ta:c.Bq.Ao.length<=1048576
 pins:c.Bq.Ao.flatten.length<=n
structure Sm(n:Nat)(h:AE):Prop where
 Dw:h.AQ.AW.length<=1048576
 CP:h.AG.length<=n
 EU:h.AH.length<=1048576
 D1:∀c∈h.AH,UR n c
 todo:h.BF.length<=n
 GM:h.BC.length<=1048576
theorem UR.mono{n m:Nat}{c:Ab}(h:UR n c)(a:n<=m):UR m c:=⟨Aw h.row a,h.Ta,Aw h.pins a⟩
theorem Sm.mono{n m:Nat}{h:AE}(a:Sm n h)(e:n<=m):Sm m h:=
 ⟨a.Dw,Aw a.CP e,a.EU,fun c g=>(a.D1 c g).mono e,Aw a.todo e,a.GM⟩
theorem Sm.fit{n:Nat}{h:AE}(a:Sm n h)(e:n<=1048576):B0 h:=
 ⟨a.Dw,Aw a.CP e,a.EU,fun c g=>⟨Aw (a.D1 c g).row e,(a.D1 c g).Ta,Aw (a.D1 c g).pins e⟩,Aw a.todo e,a.GM⟩
theorem Sm.cab{n:Nat}{h:AE}(a:Sm n h){k:Int}{c:Ab}(j:UR n c):Sm n (Cu h k c):=by
 refine⟨a.Dw,a.CP,by simpa[Cu] using a.EU,?_,a.todo,a.GM⟩;intro q e;rcases List.mem_or_eq_of_mem_set e with g|rfl
 .exact a.D1 _ g
 .exact j
theorem AVf(n:Nat):UR n vX:=⟨by simp[vX],by simp[vX],by simp[vX]⟩
theorem Sm.cbn{n:Nat}{h:AE}(e:Sm n h)(k:Int):UR n (cbn h k):=by
 unfold Lv.P.cbn;rw[BO];cases a:h.AH[k.toNat]? with
 |none=>exact AVf n|some c=>exact e.D1 c (List.mem_of_getElem? a)
theorem UE{α:Type}(lt:α->α->Bool)(a:α):∀l:List α,(put lt a l).length=l.length+1| []=>rfl|b::l=>by unfold put;split<;>simp[UE lt a l]
theorem To{α:Type}(p:α->Bool)(l:List α):(l.eraseP p).length<=l.length:=(List.eraseP_sublist).length_le
theorem AJ6{n:Nat}{c:Ab}(h:UR n c)(p:BH):(S6 c.Bq p).1.Ao.length<=1048576/\(S6 c.Bq p).1.Ao.flatten.length<=n:=by
 unfold S6;split
 .refine⟨by simpa using h.Ta,?_⟩;rcases AZ (p.At.tmod 9).toNat c.Bq.Ao.length with a|a
  .have e:c.Bq.Ao.getD (p.At.tmod 9).toNat []=c.Bq.Ao[(p.At.tmod 9).toNat]:=by rw[BO,AT a];rfl
   have g:=AA4 a ((c.Bq.Ao[(p.At.tmod 9).toNat]).eraseP (isP p));have j:=To (isP p) (c.Bq.Ao[(p.At.tmod 9).toNat]);have q:=h.pins;dsimp only;rw[e];omega
  .dsimp only;rw[List.set_eq_of_length_le a];exact h.pins
 .exact⟨h.Ta,h.pins⟩
theorem PR(l:List Int)(k:Int):(Qp l k).length<=l.length+1:=by unfold Qp;split<;>simp
theorem ATI(l:List AN)(p:AN):(KO l p).length<=l.length+1:=by
 grind[KO,UE]
theorem AUd{n:Nat}{h:AE}(g:Sm n h){c:Ab}{e:Af}{k:Int}{l:BE}(a:UR n c):Sm (n+1) (Cu h k ⟨l,put ltE e c.Row,c.Bq⟩):=by
 refine(g.mono (C2 n)).cab ⟨?_,a.Ta,Aw a.pins (C2 n)⟩;rw[UE];have:=a.row;omega
theorem aO{n:Nat}{h:AE}(a:Sm n h)(p:AN):Sm n (gone h p):=by
 have e:Sm n ⟨h.AQ,h.Now,h.Az,h.AG.eraseP (fun x=>x.Id==p.Id),h.AH,h.BF,h.BC⟩:=
  ⟨a.Dw,Aw (To _ _) a.CP,a.EU,a.D1,a.todo,a.GM⟩
 unfold gone;dsimp only;split
 .have c:=a.cbn p.Bi;exact e.cab ⟨c.row,c.Ta,c.pins⟩
 .exact e
theorem AA7{n:Nat}{h:AE}(g:Sm n h)(k m:Int):Sm (n+1) (TH h k m):=by
 have e:=g.cbn k;have a:=(g.cab (k:=k) (c:=⟨(l8 (Lv.P.cbn h k).AW m 1 0 (-1) 0).1,(Lv.P.cbn h k).Row,(Lv.P.cbn h k).Bq⟩) ⟨e.row,e.Ta,e.pins⟩).mono (C2 n);unfold TH;exact⟨a.Dw,a.CP,a.EU,a.D1,Aw (PR _ _) (by have:=g.todo;omega),a.GM⟩
def dropped(h:AE)(p:AN):AE:=Cu h p.AY ⟨(l8 (cbn h p.AY).AW p.BA 1 (-1) 0 0).1,(cbn h p.AY).Row,(S6 (cbn h p.AY).Bq ⟨p.Cq,p.Id⟩).1⟩
theorem M3{n:Nat}{h:AE}(c:Sm n h)(p:AN):Sm n (dropped h p):=by
 have a:=c.cbn p.AY;have e:=AJ6 a ⟨p.Cq,p.Id⟩;exact c.cab ⟨a.row,e.1,e.2⟩
def NS(h:AE)(l:List AN):AE:=⟨h.AQ,h.Now,h.Az,l,h.AH,h.BF,h.BC⟩
def GR(h:AE)(p:AN):AE:=Cu h p.AY ⟨(cbn h p.AY).AW,put ltE (EX h.AQ p h.Now).1 (cbn h p.AY).Row,(cbn h p.AY).Bq⟩
theorem Sx{n:Nat}{h:AE}(c:Sm n h)(p:AN):Sm (n+1) (NS h (KO h.AG p)):=by
 have a:=c.mono (C2 n);exact⟨a.Dw,Aw (ATI _ _) (by have:=c.CP;omega),a.EU,a.D1,a.todo,a.GM⟩
def IA(h:AE)(p:AN):AE:=
 if (EH h.AQ p h.Now).2=true then GR (NS (dropped h p) (KO h.AG (EH h.AQ p h.Now).1)) (EH h.AQ p h.Now).1 else gone (dropped h p) p
theorem ZF{r:Aa}{p:AN}{now:Int}(h:(EH r p now).2=true):(EH r p now).1.AY=p.AY:=by
 grind[EH]
theorem AOb{n:Nat}{h:AE}(a:Sm n h)(p:AN):Sm (n+2) (IA h p):=by
 unfold IA;split
 .exact AUd (Sx (M3 a p) _) ((Sx (M3 a p) _).cbn _)
 .exact(aO (M3 a p) p).mono (by omega)
theorem TZ{n:Nat}(G:n+2<=1048576){h:AE}(c:Sm n h){p:AN}(e:0<=p.AY)(g:p.AY<h.AH.length)(y:p.Bi<h.AH.length):mo h p=some (IA h p):=by
 unfold mo;rw[Wp (c.fit (by omega)) e g,AB];have q:=M3 c p;have H:=c.Dw;show bd (zi h.AQ p h.Now) _=_;rw[ACV (by omega),AB,BB,B7];unfold IA;have a:(dropped h p).AH.length=h.AH.length:=by simp[dropped,Cu]
 split
 .rename_i B;have j:=ZF B;rw[OG (by have:=c.CP;show h.AG.length<=_;omega),AB];have E:=Sx q (EH h.AQ p h.Now).1;show bd (ZB (NS (dropped h p) (KO h.AG (EH h.AQ p h.Now).1)) _) _=_;rw[Zi (h:=NS (dropped h p) (KO h.AG (EH h.AQ p h.Now).1)) (E.fit (by omega)) (by rw[j];exact e) (by rw[j];show p.AY<((dropped h p).AH.length:Int);rw[a];exact g),AB];rfl
 .show bd (TF (dropped h p) p) _=_;rw[MW (q.fit (by omega)) (by rw[a];exact y),AB]
def El(h:AE)(l:List Int):AE:=⟨h.AQ,h.Now,h.Az,h.AG,h.AH,l,h.BC⟩
def HU(h:AE)(id cabin frm size tier:Int):AN:=⟨id,cabin,frm,size,tier,h.Now,h.Az,1,0,0⟩
def JY(h:AE)(k n:Int):AE:=Cu h k ⟨(l8 (cbn h k).AW n 0 0 0 1).1,(cbn h k).Row,(cbn h k).Bq⟩
def Lg(h:AE)(id cabin frm size tier:Int):AE:=
 let p:=HU h id cabin frm size tier
 let x:=GR ⟨h.AQ,h.Now,w64 (h.Az+1),KO h.AG p,h.AH,h.BF,h.BC⟩ p
 let y:=if 0<=frm then JY x frm size else x
 El y (Qp y.BF cabin)
def ig(h:AE)(id cabin frm size tier:Int):AE×Int:=
 if verdict h ⟨1,id,cabin,frm,size,tier⟩≠0 then (h,verdict h ⟨1,id,cabin,frm,size,tier⟩) else (Lg h id cabin frm size tier,0)
theorem AK6{h:AE}(e:B0 h){p:AN}(a:0<=p.AY)(c:p.AY<h.AH.length):ZB h p=some (GR h p):=Zi e a c
theorem Wy{h:AE}{id cabin frm size tier:Int}(a:verdict h ⟨1,id,cabin,frm,size,tier⟩=0):D8 h=true/\0<=cabin/\cabin<h.AH.length/\frm<h.AH.length:=by
 grind[verdict,HT,KN,Ql,CQ,WE]
theorem AMx{n:Nat}(Q:n+3<=1048576){h:AE}(G:Sm n h)(id cabin frm size tier:Int):AHY h id cabin frm size tier=some (ig h id cabin frm size tier)/\Sm (n+3) (ig h id cabin frm size tier).1:=by
 have E:=G.fit (by omega);unfold AHY dp ig;rw[HN E,AB,Gr E,AB];simp only[B7,bne_iff_ne,ne_eq,BQ,ge_iff_le,AV];by_cases y:verdict h ⟨1,id,cabin,frm,size,tier⟩=0
 .obtain⟨O,I,J,L⟩:=Wy y;rw[AU (not_not_intro y),AU (not_not_intro y),OG E.CP,AB];have g:Sm (n+1) (⟨h.AQ,h.Now,w64 (h.Az+1),KO h.AG (HU h id cabin frm size tier),h.AH,h.BF,h.BC⟩:AE):=by
   have j:=Sx G (HU h id cabin frm size tier);exact⟨j.Dw,j.CP,j.EU,j.D1,j.todo,j.GM⟩
  have e:Sm (n+2) (GR ⟨h.AQ,h.Now,w64 (h.Az+1),KO h.AG (HU h id cabin frm size tier),h.AH,h.BF,h.BC⟩ (HU h id cabin frm size tier)):=AUd g (g.cbn _);show bd (ZB ⟨h.AQ,h.Now,w64 (h.Az+1),KO h.AG (HU h id cabin frm size tier),h.AH,h.BF,h.BC⟩ (HU h id cabin frm size tier)) _=_/\_;rw[AK6 (g.fit (by omega)) (show 0<=(HU h id cabin frm size tier).AY from I) (show (HU h id cabin frm size tier).AY<_ from J),AB];simp only[decide_eq_true_eq];unfold Lg;dsimp only;generalize hX:GR ⟨h.AQ,h.Now,w64 (h.Az+1),KO h.AG (HU h id cabin frm size tier),h.AH,h.BF,h.BC⟩ (HU h id cabin frm size tier)=X at e ⊢;have q:X.AH.length=h.AH.length:=by rw[<-hX];simp[GR,Cu]
  by_cases c:0<=frm
  .rw[AX c,AX c,FG c (by rw[q];exact L),AB,AB,lA,AB,AB,AB,Iq (by have:=e.todo;show X.BF.length<=_;omega),AB];have B:=e.cbn frm;have H:Sm (n+2) (JY X frm size):=e.cab ⟨B.row,B.Ta,B.pins⟩;have a:=H.mono (C2 (n+2));exact⟨rfl,a.Dw,a.CP,a.EU,a.D1,Aw (PR _ _) (by have:=H.todo;omega),a.GM⟩
  .rw[AU c,AU c];show bd (VF X.BF cabin) _=_/\_;rw[Iq (by have:=e.todo;omega),AB];have a:=e.mono (C2 (n+2));exact⟨rfl,a.Dw,a.CP,a.EU,a.D1,Aw (PR _ _) (by have:=e.todo;omega),a.GM⟩
 .rw[AX y,AX y];exact⟨rfl,G.mono (by omega)⟩
def par(h:AE)(id:Int):AN:=h.AG.getD (F4 h id).toNat tk
theorem jh{h:AE}(e:D8 h=true){id:Int}(c:0<=F4 h id):0<=(par h id).AY/\(par h id).AY<h.AH.length /\ -1<=(par h id).Bi/\(par h id).Bi<h.AH.length/\(par h id).Id=id:=by
 have hR:=PI e;obtain⟨y,B⟩:=QI c;have hi:(F4 h id).toNat<h.AG.length:=by omega
 have a:=hR.par _ hi;have j:par h id=h.AG[(F4 h id).toNat]:=by unfold par;rw[BO,AT hi];rfl
 rw[<-j]at a;unfold Dp at a;have E:=hR.Dw;simp only[AF,CQ]at a;obtain⟨_,_,_,g,q,_⟩:=a;rw[Ah (by omega) (by omega)]at g q;have:=hR.EU
 grind
def hH(h:AE)(k n:Int):AE×Int:=
 if verdict h ⟨3,0,k,0,n,0⟩≠0 then (h,verdict h ⟨3,0,k,0,n,0⟩) else (TH h k n,0)
theorem Wx{h:AE}{k n:Int}(a:verdict h ⟨3,0,k,0,n,0⟩=0):D8 h=true/\0<=k/\k<h.AH.length:=by
 grind[verdict,HT,KN,Ql,CQ]
theorem jw{m:Nat}(y:m+1<=1048576){h:AE}(e:Sm m h)(k n:Int):AHq h k n=some (hH h k n)/\Sm (m+1) (hH h k n).1:=by
 have c:=e.fit (by omega);unfold AHq hH;rw[HN c,AB,Gr c,AB];simp only[B7,bne_iff_ne,ne_eq];by_cases a:verdict h ⟨3,0,k,0,n,0⟩=0
 .obtain⟨q,g,j⟩:=Wx a
  grind[Wq,AB,AA7]
 .rw[AX a,AX a];exact⟨rfl,e.mono (by omega)⟩
end Lv.P
