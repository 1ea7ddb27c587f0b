/- Plain laws about what the program computes. -/
import Derived.Test.YtdmpkjjlnjchkaaGreatPD4
noncomputable section
set_option linter.unusedVariables false
set_option linter.unusedSimpArgs false
set_option linter.unusedSectionVars false
open Int renaming toNat_natCast->Ac
open List renaming append_assoc->CR,append_cancel_left->H6,append_inj->LS,drop_eq_nil_of_le->BM,drop_left'->Cy,drop_zero->C3,getElem_mem->Am,length_append->AM,length_cons->AH,length_drop->BT,length_nil->AN,length_take->BS,nil_append->CK,take_append->LC,take_left'->C5,take_length->C9,take_of_length_le->BQ,take_prefix->H8
open Nat renaming le_trans->Au,lt_or_ge->AT
open Option.some renaming injEq->AE
open Prod.mk renaming injEq->A5
namespace Lv.P
open Go (IntKind BinOp UnOp)
theorem Xi{w pre l:List UInt8}{n:Nat}{i:Int}(c:w=pre++(FU n++l))(hi:i=pre.length)(a:n<=2147483647):gN w i=((n:Int),((pre.length+(FU n).length:Nat):Int),true):=by
 subst c;subst hi;have:=Ip n;unfold gN;rw[if_pos (by simp only[AM];omega),Ac,List.drop_left,AFy 5 0 0 n l (LM a) (.inl rfl) (by simpa using a)];simp[AD4]
theorem AD3{w:List UInt8}{i n j:Int}(h:gN w i=(n,j,true)):∃(m:Nat) (l:List UInt8),0<=i/\i<w.length/\w.drop i.toNat=FU m++l/\n=(m:Int)/\j=i+(FU m).length/\m<=2147483647:=by
 unfold gN at h;split at h
 .rename_i hi;cases a:rdN 5 0 0 (w.drop i.toNat) with
  |none=>rw[a]at h;simp[AD4]at h|some x=>
   obtain⟨N,k⟩:=x;rw[a]at h;simp only[AD4,A5]at h;obtain⟨m,l,c,e,g,_,q⟩:=pI _ _ _ _ _ _ a;simp at e;refine⟨m,l,hi.1,hi.2,c,by omega,by omega,by omega⟩
 .simp at h
theorem AD0{q:Int}{b:List UInt8}(h:T5 q b):frB q b=FU (frT q b).length++(four ((LI (pN q++b):Nat):Int)++(FU q.toNat++b))/\frT q b=four ((LI (pN q++b):Nat):Int)++(FU q.toNat++b):=by
 have hT:=RU h;have e:pN q=FU q.toNat:=by unfold pN;rw[if_pos (by have:=h.1;omega)]
 have a:frT q b=four ((LI (pN q++b):Nat):Int)++(FU q.toNat++b):=by unfold frT;rw[e]
 refine⟨?_,a⟩;unfold frB;rw[if_pos h,<-a];have c:pN ((frT q b).length:Int)=FU (frT q b).length:=by unfold pN;rw[if_pos (by omega),Ac]
 rw[c]
theorem Adz{q q':Int}{b a d:List UInt8}(h:T5 q b)(j:T5 q' a)(X:frB q b <+: d)(E:frB q' a <+: d):q=q'/\b=a:=by
 obtain⟨r,rfl⟩:=X;obtain⟨Z,y⟩:=E;obtain⟨L,H⟩:=AD0 h;obtain⟨B,e⟩:=AD0 j;have hT:=RU h;have hT':=RU j;rw[L,B,<-H,<-e,CR,CR]at y;have O:=Xi (w:=FU (frT q b).length++(frT q b++r)) (pre:=[]) (i:=0) rfl rfl (by omega:(frT q b).length<=2147483647);have I:=Xi (w:=FU (frT q b).length++(frT q b++r)) (pre:=[]) (i:=0) (l:=frT q' a++Z) (by rw[<-y];rfl) rfl (by omega:(frT q' a).length<=2147483647);rw[O]at I;have S:(frT q b).length=(frT q' a).length:=by have:=congrArg Prod.fst I;simp at this;omega
 rw[<-S]at y;have G:=H6 y;have g:=(LS G (by omega)).1;rw[H,e]at g;have c:=(LS g (by rw[HM,HM])).2;have Q:=Xi (w:=FU q.toNat++b) (pre:=[]) (i:=0) rfl rfl (by have:=h.1;omega:q.toNat<=2147483647);have J:=Xi (w:=FU q.toNat++b) (pre:=[]) (i:=0) (l:=a) (by rw[<-c];rfl) rfl (by have:=j.1;omega:q'.toNat<=2147483647);rw[Q]at J;have Y:q.toNat=q'.toNat:=by have:=congrArg Prod.fst J;simp at this;omega
 rw[<-Y]at c;have:=h.1;have:=j.1;exact⟨by omega,(H6 c).symm⟩
def ANh(d:List UInt8)(i:Int):B4×Bool:=
 open Classical in if h:∃x:Int×List UInt8,T5 x.1 x.2/\frB x.1 x.2 <+: d then (⟨h.choose.1,h.choose.2,i+(frB h.choose.1 h.choose.2).length⟩,true) else (⟨0,[],0⟩,false)
theorem Ad1{q:Int}{b d:List UInt8}{i:Int}(h:T5 q b)(a:frB q b <+: d):ANh d i=(⟨q,b,i+(frB q b).length⟩,true):=by
 unfold ANh;have c:∃x:Int×List UInt8,T5 x.1 x.2/\frB x.1 x.2 <+: d:=⟨(q,b),h,a⟩;rw[dif_pos c];obtain⟨j,y⟩:=c.choose_spec;obtain⟨e,g⟩:=Adz h j a y;rw[<-e,<-g]
theorem ACL{d:List UInt8}{i:Int}(h:∀q b,T5 q b->¬frB q b <+: d):ANh d i=(⟨0,[],0⟩,false):=by
 unfold ANh;rw[dif_neg];rintro⟨⟨q,b⟩,a,c⟩;exact h q b a c
theorem VA(d:List UInt8)(i:Int):(∃q b,T5 q b/\frB q b <+: d/\ANh d i=(⟨q,b,i+(frB q b).length⟩,true))\/((∀q b,T5 q b->¬frB q b <+: d)/\ANh d i=(⟨0,[],0⟩,false)):=by
 by_cases h:∃q b,T5 q b/\frB q b <+: d
 .obtain⟨q,b,c,a⟩:=h;exact .inl ⟨q,b,c,a,Ad1 c a⟩
 .have a:∀q b,T5 q b->¬frB q b <+: d:=fun q b c a=>h ⟨q,b,c,a⟩
  exact .inr ⟨a,ACL a⟩
def cX(s:List UInt8)(i:Int):B4×Bool:=if 0<=i/\i<=s.length then ANh (s.drop i.toNat) i else (⟨0,[],0⟩,false)
@[simp] theorem ZT(a b:Int):XA a b=some (if a<b then a else b):=by
 unfold XA;rw[BA];split<;>rfl
theorem Ace{p d:List UInt8}{n:Nat}(h:p <+: d)(a:p.length<=n):p <+: d.take n:=by
 obtain⟨r,rfl⟩:=h;rw[LC];exact⟨(r.take (n-p.length)),by rw[BQ a]⟩
theorem eG(b:List UInt8):(b==[])=decide (b=[]):=by cases b<;>rfl
theorem AGD{s:List UInt8}(hs:s.length<2 ^ 62)(i:Int):AQf s i=some (cX s i):=by
 unfold AQf cX;rw[pB,AB,BI,BA];by_cases hi:0<=i/\i<=(s.length:Int)
 rotate_left
 .rw[if_neg hi,if_neg hi]
 rw[if_pos hi,if_pos hi,ZT,AB,Ai (by omega) (by omega)];generalize hx:(if (s.length:Int)<i+80 then (s.length:Int) else i+80)=x;have O:i<=x/\x<=(s.length:Int):=by split at hx<;>omega
 rw[B9 ⟨hi.1,O⟩];unfold A9Z A4a BAt;have hW:(s.drop i.toNat).take (x.toNat-i.toNat)=(s.drop i.toNat).take 80:=by
  split at hx
  .rw[BQ (by rw[BT];omega),BQ (by rw[BT];omega)]
  .congr 1;omega
 rw[hW];generalize hd:s.drop i.toNat=d at *;have hdl:d.length=s.length-i.toNat:=by rw[<-hd,BT]
 generalize J:d.take 80=w;have hwl:w.length<=80/\w.length<=d.length:=by rw[<-J,BS];omega
 rw[Ri (by omega) _ (by omega),AB];have L:w <+: d:=by rw[<-J];exact H8 _ _
 rcases VA d i with ⟨q,b,c,hp,G⟩|⟨I,G⟩
 ·-- there is a frame
  have hl:=iX c;obtain⟨r,j⟩:=Ace (n:=80) hp (by omega);rw[J]at j;obtain⟨y,B⟩:=AD0 c;have hT:=RU c;have hq:=c.1;have Q:gN w 0=(((frT q b).length:Int),(((FU (frT q b).length).length:Nat):Int),true):=by
   rw[Xi (w:=w) (i:=0) (pre:=[]) (n:=(frT q b).length) (l:=frT q b++r) (by rw[<-j,y,<-B];simp) (by simp) (by omega)];simp
  have hm:=LM (n:=(frT q b).length) (by omega);have hfl:(frB q b).length=(FU (frT q b).length).length+(frT q b).length:=by rw[y,<-B,AM]
  have hwl2:w.length=(frB q b).length+r.length:=by rw[<-j,AM]
  generalize hM:(FU (frT q b).length).length=M at *;generalize hN:(frT q b).length=N at *;have hN2:N=4+(FU q.toNat).length+b.length:=by rw[<-hN,B];simp[HM];omega
  rw[Q];dsimp only;rw[BI,BH,Ai (n:=(w.length:Int)-M) (by omega) (by omega),BA,if_neg (by omega),decide_eq_false (by omega),AR,BN,Ai (n:=(M:Int)+4) (by omega) (by omega)];have S:gN w ((M:Int)+4)=(q,((M+4+(FU q.toNat).length:Nat):Int),true):=by
   rw[Xi (pre:=FU N++four ((LI (pN q++b):Nat):Int)) (n:=q.toNat) (l:=b++r) (by rw[<-j,y];simp) (by simp[HM,hM]) (by omega)];simp[HM,hM];omega
  rw[Ri (by omega) _ (by omega),AB,S];dsimp only;rw[BI,BH,Ai (n:=(M:Int)+N) (by omega) (by omega),decide_eq_false (by omega),AR,BN,B9 (by omega),B9 (by omega)];have hb:((w.drop ((M+4+(FU q.toNat).length:Nat):Int).toNat).take (((M:Int)+N).toNat-((M+4+(FU q.toNat).length:Nat):Int).toNat))=b:=by
   have e3:w=(FU N++four ((LI (pN q++b):Nat):Int)++FU q.toNat)++(b++r):=by rw[<-j,y];simp
   rw[Ac,e3,Cy (by simp[HM,hM];omega),C5 (by omega)]
  have hf:((w.drop 0).take (((M:Int)+N).toNat-0))=frB q b:=by
   rw[C3,<-j,C5 (by omega)]
  rw[hb,hf,PN,AB];have g:(frB q b != frB q b)=false:=by simp
  have E:(b==[])=false:=by rw[eG];have:=c.2;cases b<;>simp at this ⊢
  rw[g,BN,AR,E,BN,G];have hfw:(((FU N).length:Nat):Int)=M:=by omega
  simp only[AE,A5,and_true,B4.mk.injEq,true_and];rw[Ai (n:=i+M) (by omega) (by omega),Ai (by omega) (by omega)];omega
 ·-- there is none
  rw[G];rcases hg:gN w 0 with ⟨n,m,ok⟩;cases ok with
  |false=>dsimp only;simp only[BI,BN,BH,AR]|true=>
   obtain⟨n',l,h1,h2,h3,h4,h5,h6⟩:=AD3 hg;have hn5:=LM h6;have hwlen:w.length=(FU n').length+l.length:=by have:=congrArg List.length h3;simpa using this
   dsimp only;rw[BI,BH,Ai (n:=(w.length:Int)-m) (by omega) (by omega),BA];by_cases X:n>(w.length:Int)-m
   .rw[if_pos X];simp only[BH,AR]
   rw[if_neg X,AR,BA];by_cases Y:n<5
   .rw[if_pos Y]
   rw[if_neg Y,Ai (n:=m+4) (by omega) (by omega),Ri (by omega) _ (by omega),AB];rcases H:gN w (m+4) with ⟨q,k,ok⟩;cases ok with
   |false=>dsimp only;simp only[BI,BN,BH,AR]|true=>
    obtain⟨q',l',Q,S,g3,g4,g5,g6⟩:=AD3 H;dsimp only;rw[BI,BH,Ai (n:=m+n) (by omega) (by omega),AR,BA];by_cases Z:k>m+n
    .rw[if_pos Z]
    rw[if_neg Z,B9 (by omega),B9 (by omega),PN,AB,oW,C3,Nat.sub_zero];generalize hbb:List.take ((m+n).toNat-k.toNat) (List.drop k.toNat w)=bb;by_cases e:frB q bb=List.take (m+n).toNat w
    .rw[if_pos e];exfalso;have g:frB q bb≠[]:=by
      rw[e];intro h;have:=congrArg List.length h;rw[BS]at this;simp only[AN]at this;omega
     exact I q bb (AY2 g) (by rw[e];exact(H8 _ _).trans L)
    .rw[if_neg e];simp only[BH,AR]
theorem AEs{s:List UInt8}(hs:s.length<2 ^ 62)(i:Int)(hi':i<2 ^ 62):A8N s i=some (cX s i):=by
 unfold A8N cX AQS;rw[Up,AB,AB,Ai (n:=(s.length:Int)-1) (by omega) (by omega),BI,BA];by_cases hi:0<=i/\i<=(s.length:Int)
 rotate_left
 .rw[if_neg (by omega),if_neg hi]
 rw[if_pos hi];by_cases hi2:i=(s.length:Int)
 .rw[if_neg (by omega)];congr 1;rw[ACL];intro q b E Y;have J:=iX E;have:=Y.length_le;rw[BT]at this;omega
 rw[if_pos (by omega)];simp only[Bool.false_eq_true,if_false];rw[Ai (n:=i+5) (by omega) (by omega)];generalize hx:(if i+5<(s.length:Int) then i+5 else (s.length:Int))=x;have Q:i<=x/\x<=(s.length:Int):=by split at hx<;>omega
 rw[B9 ⟨hi.1,Q⟩];unfold A8M A8O;have hW:(s.drop i.toNat).take (x.toNat-i.toNat)=(s.drop i.toNat).take 5:=by
  split at hx
  .congr 1;omega
  .rw[BQ (by rw[BT];omega),BQ (by rw[BT];omega)]
 rw[hW];generalize hd:s.drop i.toNat=d at *;have hdl:d.length=s.length-i.toNat:=by rw[<-hd,BT]
 generalize hw:d.take 5=w;have hwl:w.length<=5/\w.length<=d.length:=by rw[<-hw,BS];omega
 rw[RY (by omega),AB];have h:∀m:Int,0<=m->i+m<=s.length->s.drop (i+m).toNat=d.drop m.toNat:=by
  intro m h0 E;rw[<-hd,List.drop_drop];congr 1;omega
 rcases VA d i with ⟨q,b,c,hp,H⟩|⟨O,H⟩
 ·-- there is a frame
  have J:=iX c;obtain⟨r,y⟩:=hp;obtain⟨B,e⟩:=AD0 c;have hT:=RU c;have hq:=c.1;have hm:=LM (n:=(frT q b).length) (by omega);have S:gN w 0=(((frT q b).length:Int),(((FU (frT q b).length).length:Nat):Int),true):=by
   rw[Xi (w:=w) (i:=0) (pre:=[]) (n:=(frT q b).length) (l:=(frT q b++r).take (5-(FU (frT q b).length).length)) (by
    rw[<-hw,<-y,B,<-e,CR,LC,BQ hm];rfl) (by simp) (by omega)];simp
  have hfl:(frB q b).length=(FU (frT q b).length).length+(frT q b).length:=by rw[B,<-e,AM]
  have hdl2:d.length=(frB q b).length+r.length:=by rw[<-y,AM]
  generalize hM:(FU (frT q b).length).length=M at *;generalize hN:(frT q b).length=N at *;have hN2:N=4+(FU q.toNat).length+b.length:=by rw[<-hN,e];simp[HM];omega
  rw[S];dsimp only;rw[BI,BH,BA,if_neg (by omega),Ai (n:=(s.length:Int)-i) (by omega) (by omega),Ai (n:=(s.length:Int)-i-M) (by omega) (by omega),decide_eq_false (by omega),AR,BN];rw[Ai (n:=i+M) (by omega) (by omega),Ai (n:=i+M+N) (by omega) (by omega),B9 (by omega),h _ (by omega) (by omega),Ac];have hT2:(d.drop M).take ((i+M+N).toNat-(i+M).toNat)=frT q b:=by
   rw[<-y,B,<-e,CR,Cy hM,C5 (by omega)]
  rw[hT2];have X:gN (frT q b) 4=(q,((4+(FU q.toNat).length:Nat):Int),true):=by
   rw[Xi (pre:=four ((LI (pN q++b):Nat):Int)) (n:=q.toNat) (l:=b) e (by simp[HM]) (by omega)];simp[HM];omega
  rw[RY (by omega),AB,X];dsimp only;rw[BI,BH,B9 (by omega)];have hb:((frT q b).drop ((4+(FU q.toNat).length:Nat):Int).toNat).take ((frT q b).length-((4+(FU q.toNat).length:Nat):Int).toNat)=b:=by
   rw[Ac,hN,e,<-CR,Cy (by simp[HM]),BQ (by omega)]
  have hf:((d).take ((i+M+N).toNat-i.toNat))=frB q b:=by
   rw[<-y,C5 (by omega)]
  rw[hb,Vi,AB];have L:(frB q b==[])=false:=by rw[eG];cases hh:frB q b with|nil=>rw[hh]at J;simp at J|cons=>rfl
  rw[L,BN,B9 (by omega),hf,AR];have j:(frB q b != frB q b)=false:=by simp
  rw[j,BN,H];simp only[AE,A5,and_true,B4.mk.injEq,true_and];omega
 ·-- there is none
  rw[H];rcases hg:gN w 0 with ⟨n,m,ok⟩;cases ok with
  |false=>dsimp only;simp only[BI,BN,BH,AR]|true=>
   obtain⟨n',l,E,Y,h3,h4,h5,h6⟩:=AD3 hg;have hn5:=LM h6;have hwlen:w.length=(FU n').length+l.length:=by have:=congrArg List.length h3;simpa using this
   dsimp only;rw[BI,BH,BA];by_cases Z:n<6
   .rw[if_pos Z];simp only[BH,AR]
   rw[if_neg Z,Ai (n:=(s.length:Int)-i) (by omega) (by omega),Ai (n:=(s.length:Int)-i-m) (by omega) (by omega),AR,BA];by_cases h8:n>(s.length:Int)-i-m
   .rw[if_pos h8]
   rw[if_neg h8,Ai (n:=i+m) (by omega) (by omega),Ai (n:=i+m+n) (by omega) (by omega),B9 (by omega),h _ (by omega) (by omega)];generalize ht:(d.drop m.toNat).take ((i+m+n).toNat-(i+m).toNat)=t;have htl:t.length<=s.length:=by rw[<-ht,BS,BT];omega
   rw[RY (by omega),AB];rcases I:gN t 4 with ⟨q,k,ok⟩;cases ok with
   |false=>dsimp only;simp only[BI,BN,BH,AR]|true=>
    obtain⟨q',l',S,X,g3,g4,g5,g6⟩:=AD3 I;have hkl:k<=t.length:=by
     have:=congrArg List.length g3;rw[BT,AM]at this;omega
    dsimp only;rw[BI,BH,B9 (by omega),Vi,AB];generalize hbb:List.take (t.length-k.toNat) (List.drop k.toNat t)=bb;rw[eG,BA];by_cases G:frB q bb=[]
    .rw[if_pos G];simp only[BH,AR]
    rw[if_neg G,B9 (by omega),AR,oW];by_cases g:frB q bb=List.take ((i+m+n).toNat-i.toNat) d
    .exfalso;exact O q bb (AY2 G) (by rw[g];exact H8 _ _)
    .rw[if_neg g]
theorem ACK{s:List UInt8}{i:Int}(h:(cX s i).2=true):0<=i/\i+7<=(cX s i).1.Next/\(cX s i).1.Next<=s.length:=by
 unfold cX at h ⊢;split at h
 .rename_i hi;rw[if_pos hi];rcases VA (s.drop i.toNat) i with ⟨q,b,c,j,a⟩|⟨g,a⟩
  .rw[a];have:=iX c;have e:=j.length_le;rw[BT]at e;dsimp only;omega
  .rw[a]at h;simp at h
 .simp at h
def frs:Nat->List UInt8->Int->List B4|0,_,_=>[]|f+1,s,i=>if (cX s i).2=true then (cX s i).1::frs f s (cX s i).1.Next else []
def E2(s:List UInt8):List B4:=frs (s.length+1) s 0
theorem AD2{s:List UInt8}(q:s.length<=1048576){G:Int->AA (B4×Bool)}(hG:∀i:Int,0<=i->i<=s.length->G i=some (cX s i)){F:(List B4×Int->AA (List B4))->List B4×Int->AA (List B4)}
 (hF:∀L acc i,F L (acc,i)=bd (G i) fun x=>br (!x.2) (some acc) (gd (acc.length+[x.1].length<=lim) (L (acc++[x.1],x.1.Next)))) :
 ∀(f n:Nat) (acc:List B4) (i:Int),0<=i->i<=s.length->s.length<f+i->f<=n->(acc.length:Int)<=i->A4 F n (acc,i)=some (acc++frs f s i)
 |0,n,acc,i,a,c,e,g,h=>by omega|f+1,0,acc,i,a,c,e,g,h=>by omega|f+1,n+1,acc,i,a,c,e,g,h=>by
  rw[EV,hF,hG i a c,AB,BI];unfold frs;cases y:(cX s i).2 with
  |false=>simp|true=>
   have j:=ACK y;rw[BH,B9 (by simp only[AH,AN];unfold lim;omega),if_pos rfl];rw[AD2 q hG hF f n _ _ (by omega) j.2.2 (by omega) (by omega) (by rw[AM,AH,AN];omega)];simp
theorem Z5{s:List UInt8}(a:s.length<=1048576):AQg s=some (E2 s):=by
 unfold AQg E2;have:=AD2 a (G:=AQf s) (F:=AjZ s) (fun i _ _=>AGD (by omega) i) (fun L acc i=>by unfold AjZ;rfl) (s.length+1) big [] 0 (by omega) (by omega) (by omega) (by have:=Wt;omega) (by simp);rw[this];simp
theorem ZO{s:List UInt8}(a:s.length<=1048576):A8d s=some (E2 s):=by
 unfold A8d E2;have:=AD2 a (G:=A8N s) (F:=A8Q s) (fun i _ _=>AEs (by omega) i (by omega)) (fun L acc i=>by unfold A8Q;rfl) (s.length+1) big [] 0 (by omega) (by omega) (by omega) (by have:=Wt;omega) (by simp);rw[this];simp
theorem AS7:∀(f:Nat) (s:List UInt8) (i:Int),0<=i->i<=s.length->((frs f s i).length:Int)<=s.length-i
 |0,s,i,a,h=>by simp[frs];omega|f+1,s,i,a,h=>by
  unfold frs;split
  .rename_i e;have c:=ACK e;have:=AS7 f s (cX s i).1.Next (by omega) c.2.2;rw[AH];omega
  .simp;omega
theorem Mj(s:List UInt8):(E2 s).length<=s.length:=by
 have:=AS7 (s.length+1) s 0 (by omega) (by omega);unfold E2;omega
def AM9(p:Int):Int->List B4->Int|r,[]=>r|r,f::l=>if f.Seq<=p then AM9 p f.Next l else r
theorem je{x:Bb}(c:x.Log.Data.length<=1048576)(p:Int):AQh x p=some (AM9 p 0 (E2 x.Log.Data)):=by
 unfold AQh;rw[Z5 c,AB];have g:=Mj x.Log.Data;generalize E2 x.Log.Data=l at *;refine C6 (n:=l.length) (fun i (v:Int)=>(v,(i:Int))) (fun _ _=>True) (fun i v=>some (AM9 p v (l.drop i))) (by omega) ?_ trivial;intro L i v _ hi e;unfold Al0 Alz A27;dsimp only;simp only[dec_lt,AR];rcases AT i l.length with h|h
 .rw[decide_eq_true h,BH,A7 h,AB,AB,AB,AB,BA,BU h (by omega),DW h];unfold AM9;by_cases a:l[i].Seq<=p
  .rw[if_pos a,if_pos a,e _ trivial h]
  .rw[if_neg a,if_neg a]
 .rw[decide_eq_false (by omega),BN,BN,BM h];rfl
theorem AEv{x:Bb}(c:x.Log.Data.length<=1048576)(p:Int):Ps x p=some (AM9 p 0 (E2 x.Log.Data)):=by
 unfold Ps;rw[ZO c,AB];have g:=Mj x.Log.Data;generalize E2 x.Log.Data=l at *;refine C6 (n:=l.length) (fun i (v:Int)=>(v,(i:Int))) (fun _ _=>True) (fun i v=>some (AM9 p v (l.drop i))) (by omega) ?_ trivial;intro L i v _ hi e;unfold RO La;dsimp only;simp only[dec_lt,AR];rcases AT i l.length with h|h
 .rw[decide_eq_true h,BH,A7 h,AB,AB,BA,BU h (by omega),DW h];unfold AM9;by_cases a:l[i].Seq<=p
  .rw[if_neg (by omega),if_pos a,e _ trivial h]
  .rw[if_pos (by omega),if_neg a]
 .rw[decide_eq_false (by omega),BN,BM h];rfl
theorem Ad0(q:Int):frB q []=[]:=by unfold frB;rw[if_neg (fun h=>by have:=h.2.1;simp at this)]
theorem n0(n:Int)(q:BX):AQj n q=some (frB n (F5 q)):=by
 unfold AQj;rw[cA,AB,eG,BA];split
 .rename_i h;rw[h,Ad0]
 .rw[PN,AB]
theorem ALl(n:Int)(q:BX):AQt n q=some (frB n (F5 q)):=by
 unfold AQt;rw[bh,AB,Vi,AB]
theorem AD1(q:Int)(b:List UInt8):(frB q b).length<=74:=by
 by_cases h:T5 q b
 .exact(iX h).2
 .unfold frB;rw[if_neg h];simp
theorem Agu{l:List Ad}(a:l.length<=1048576):Afo l=some l:=Rm (by unfold lim;omega)
theorem AHA{F:(Int×An->AA An)->Int×An->AA An}{w:An}(c:C1 w)
 (step:∀L i (h:i<w.Ak.length) (v:An),v.Ak.length=i->F L ((i:Int),v)=L (w64 ((i:Int)+1),⟨v.Ak++[w.Ak[i]]⟩)) (stop:∀L v,F L ((w.Ak.length:Int),v)=some v):A4 F big (0,⟨[]⟩)=some w:=by
 have e:=c.1;refine C6 (n:=w.Ak.length) (fun i (v:An)=>((i:Int),v)) (fun i v=>v=⟨w.Ak.take i⟩) (fun _ _=>some w) (by omega) ?_ (v:=⟨[]⟩) (by simp);intro L i v a hi g;rcases AT i w.Ak.length with h|h
 .rw[step L i h v (by rw[a];simp;omega),BU h (by omega)]
  grind[List.take_add_one]
 .obtain rfl:i=w.Ak.length:=by omega
  rw[stop,a,C9]
theorem aI{w:An}(a:C1 w):Tj w=some w:=by
 have hlim:lim=268435456:=rfl;have c:=a.1;have e:=a.2
 grind[Tj,AHA,I0,BCc,BH,A7,AB,B9,BCb,BN,AR]
theorem aH{w:An}(a:C1 w):AQn w=some w:=by
 have hlim:lim=268435456:=rfl;have c:=a.1;have e:=a.2
 grind[AQn,AHA,I0,ArV,BH,A7,AB,B9,Av8,BN,AR]
theorem AUq{c:AY}(a:DI c):AHz c=some c:=by
 unfold AHz;rw[Agu a.1,AB,aI a.2,AB]
theorem AUp{c:AY}(a:DI c):AQo c=some c:=by
 unfold AQo AQm;have:=a.1;rw[B9 (by unfold lim;omega),AB,aH a.2,AB]
theorem eM{l:List Int}(a:l.length<=1048576):AYF l=some l:=by
 unfold AYF;rw[B9 (by unfold lim;omega)]
theorem AG9{F:(Int×AD->AA AD)->Int×AD->AA AD}{h:AD}(e:Bp h)
 (step:∀L i (hi:i<h.AI.length) (v:AD),v.AI.length=i->F L ((i:Int),v)=L (w64 ((i:Int)+1),⟨v.AO,v.Now,v.Ap,v.AG,v.AI++[h.AI[i]],v.BC,v.A8⟩)) (stop:∀L v,F L ((h.AI.length:Int),v)=some v):A4 F big (0,⟨h.AO,h.Now,h.Ap,h.AG,[],h.BC,h.A8⟩)=some h:=by
 have g:=e.EG;refine C6 (n:=h.AI.length) (fun i (v:AD)=>((i:Int),v)) (fun i v=>v=⟨h.AO,h.Now,h.Ap,h.AG,h.AI.take i,h.BC,h.A8⟩) (fun _ _=>some h) (by omega) ?_ (v:=⟨h.AO,h.Now,h.Ap,h.AG,[],h.BC,h.A8⟩) (by simp);intro L i v c hi j;rcases AT i h.AI.length with a|a
 .rw[step L i a v (by rw[c];simp;omega),BU a (by omega)]
  grind[List.take_add_one]
 .obtain rfl:i=h.AI.length:=by omega
  rw[stop,c,C9]
theorem H9{h:AD}(a:Bp h):WY h=some h:=by
 have hlim:lim=268435456:=rfl;have c:=a.Dd;have p1:=a.CS;have p2:=a.todo;have p3:=a.F4;have p4:=a.EG;have e:0+h.AG.length<=lim:=by omega
 have g:0+h.BC.length<=lim:=by omega
 have j:0+h.A8.length<=lim:=by omega
 unfold WY;simp only[ACe c,AB,B9 e,B9 g,B9 j,AP3,CK,MG,I9,A8G,l7,BCd,A8S,BCe,BAu,mh,BBR,A8k,A9v,A8U,A8V,BBT,BBS,BAv,BBV,A9w,A9y,A9x,A9z,BBX,BBW,BBU,A8L,BBa,A90,A92,A91,A93,BBc,BBb,BBZ,A9E,A94,A95,BBg,BBf,BBe,BBk,A96,BBj,BBi,BBn,BBm,BBl,BBh,BBd,BBY];refine AG9 a ?_ ?_
 .intro L i hi v q;unfold A97;dsimp only;rw[CC hi,BH,A7 hi,AB,AUq (a.De _ (Am hi)),AB,B9 (by rw[Kc];omega)]
 grind[A97,BBo,BN,AR]
theorem HF{h:AD}(a:Bp h):AQp h=some h:=by
 have hlim:lim=268435456:=rfl;have c:=a.Dd;have p1:=a.CS;have p2:=a.todo;have p3:=a.F4;have p4:=a.EG;have e:0+h.AG.length<=lim:=by omega
 unfold AQp;simp only[ACd c,AB,B9 e,eM p2,eM p3,Cw,Ja,Jb,Jc,Jd,I9,Je,Jf,MG,J6,I1,N7,PS,WK];refine AG9 a ?_ ?_
 .intro L i hi v g;unfold ArW;dsimp only;rw[CC hi,BH,A7 hi,AB,AUp (a.De _ (Am hi)),AB,B9 (by rw[Kc];omega)]
 grind[ArW,Av9,BN,AR]
theorem Mi{e:Ae}(a:CW e):fP e=some e:=by
 have hlim:lim=268435456:=rfl;have:=a.laid;have g:0+e.Laid.length<=lim:=by omega
 unfold fP;simp only[H9 a.EL,AB,B9 g,Cw,Ja,Jb,Jc,Jd,I9,Je,Jf,MG,J6,I1,N7,PS,WK,CK]
theorem U1{e:Ae}(a:CW e):AQq e=some e:=by
 have hlim:lim=268435456:=rfl;have:=a.laid;unfold AQq;rw[HF a.EL,AB,B9 (by omega)]
def G0(a:Bu)(s:List UInt8):Bu×Bool:=if Gn a=true/\(a.Data.length:Int)+s.length<=20000 then (⟨a.Data++s,a.Safe⟩,true) else (a,false)
theorem LH{a:Bu}:Gn a=true↔(a.Data.length:Int)<=20000/\0<=a.Safe/\a.Safe<=a.Data.length:=by
 grind[Gn,CY]
theorem Z3{a:Bu}{s:List UInt8}(c:s.length<=4000):AQk a s=some (G0 a s):=by
 grind[On,AQk,BAx,G0,IT,AB,BI,AR,Gn,Ai,B9,BA]
theorem nV{a:Bu}{s:List UInt8}(c:a.Data.length<=1048576)(e:s.length<=4000):AQd a s=some (G0 a s):=by
 grind[On,AQd,BAr,G0,B9,GY,AB,AR,BH,LH,BN]
def JB(e:Ae)(q:BX):Ae×Int:=
 if Ef e=false then (e,21) else if LR q=false then (e,22) else if e.Seq=1000000 then (e,23) else if e.Laid.length=8\/(G0 e.BO.Log (frB (w64 (e.Seq+1)) (F5 q))).2=false then (e,24)
 else (⟨e.BD,⟨(G0 e.BO.Log (frB (w64 (e.Seq+1)) (F5 q))).1,e.BO.Dl,e.BO.Odd⟩,w64 (e.Seq+1),e.Laid++[q]⟩,0)
theorem Z6{e:Ae}(a:CW e)(q:BX):AQl e q=some (JB e q):=by
 have hlim:lim=268435456:=rfl;have g:=a.laid;have c:=AD1 (w64 (e.Seq+1)) (F5 q);unfold AQl JB;simp only[Mi a,Ga a,zW,n0,Z3 (Au c (by omega):(frB (w64 (e.Seq+1)) (F5 q)).length<=4000),AB,Cw,Ja,Jb,Jc,Jd,I9,Je,Jf,MG,J6,I1,N7,PS,WK,BI,AR];unfold BAy;rw[BI,BH,B9 (by rw[Kc];omega)];cases Ef e with
 |false=>rfl|true=>
  cases LR q with
  |false=>rfl|true=>
   simp only[BH,BZ,beq_iff_eq]
   grind
theorem ALk{e:Ae}(a:CW e)(q:BX):AAx e q=some (JB e q):=by
 have hlim:lim=268435456:=rfl;have g:=a.laid;have c:=AD1 (w64 (e.Seq+1)) (F5 q);unfold AAx JB;simp only[U1 a,Hb a,xy,ALl,nV a.log (Au c (by omega):(frB (w64 (e.Seq+1)) (F5 q)).length<=4000),AB,Cw,Ja,Jb,Jc,Jd,I9,Je,Jf,MG,J6,I1,N7,PS,WK,BI]
 grind[B9,BZ]
theorem Ks{e:Ae}(h:Ef e=true):DR e.BD=true/\KP e.BO=true/\e.Laid.length<=8/\((e.Laid.length:Int)<=e.Seq/\e.Seq<=1000000)/\e.Laid.all LR=true:=by
 grind[Ef,CY]
theorem mu{a:Bu}{s:List UInt8}(c:a.Data.length<=1048576):(G0 a s).1.Data.length<=1048576:=by
 grind[G0]
theorem UD{e:Ae}(a:CW e)(q:BX):CW (JB e q).1:=by
 unfold JB;split
 .exact a
 .rename_i c;rw[Bool.not_eq_false]at c;have g:=Ks c;split
  .exact a
  .split
   .exact a
   .split
    .exact a
    .exact⟨a.EL,mu a.log,a.even,a.odd,by dsimp only;rw[AM,List.length_singleton];omega⟩
end Lv.P
