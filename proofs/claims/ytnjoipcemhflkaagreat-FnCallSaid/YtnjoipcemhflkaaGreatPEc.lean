/- Plain laws about what the program computes. -/
import Derived.Test.YtnjoipcemhflkaaGreatPDc
noncomputable section
set_option linter.unusedVariables false
set_option linter.unusedSimpArgs false
set_option linter.unusedSectionVars false
open Int renaming toNat_natCast->Ac
open List renaming append_assoc->Bv,append_cancel_left->G8,append_inj->KE,drop_eq_nil_of_le->BI,drop_left'->CU,drop_zero->Cb,getElem_mem->BC,length_append->AN,length_cons->AI,length_drop->BD,length_nil->AP,length_take->BH,nil_append->Bk,take_append->J0,take_left'->Ce,take_length->J1,take_of_length_le->BE,take_prefix->HA
open Nat renaming le_trans->Ar,lt_or_ge->AV
open Option.some renaming injEq->AD
open Prod.mk renaming injEq->Au
namespace Lv.P
open Go (IntKind BinOp UnOp)
theorem SP{w pre l:List UInt8}{n:Nat}{i:Int}(c:w=pre++(Ei n++l))(hi:i=pre.length)(a:n<=2147483647):gN w i=((n:Int),((pre.length+(Ei n).length:Nat):Int),true):=by
 subst c;subst hi;have:=Hl n;unfold gN;rw[if_pos (by simp only[AN];omega),Ac,List.drop_left,sY 5 0 0 n l (J9 a) (.inl rfl) (by simpa using a)];simp[pM]
theorem pK{w:List UInt8}{i n j:Int}(h:gN w i=(n,j,true)):∃(m:Nat) (l:List UInt8),0<=i/\i<w.length/\w.drop i.toNat=Ei m++l/\n=(m:Int)/\j=i+(Ei m).length/\m<=2147483647:=by
 unfold gN at h;split at h
 .rename_i hi;cases a:rdN 5 0 0 (w.drop i.toNat) with
  |none=>rw[a]at h;simp[pM]at h|some x=>
   obtain⟨N,k⟩:=x;rw[a]at h;simp only[pM,Au]at h;obtain⟨m,l,c,e,g,_,q⟩:=ar _ _ _ _ _ _ a;simp at e;refine⟨m,l,hi.1,hi.2,c,by omega,by omega,by omega⟩
 .simp at h
theorem pI{q:Int}{b:List UInt8}(h:Pp q b):frB q b=Ei (frT q b).length++(four ((KL (pN q++b):Nat):Int)++(Ei q.toNat++b))/\frT q b=four ((KL (pN q++b):Nat):Int)++(Ei q.toNat++b):=by
 have hT:=Od h;have e:pN q=Ei q.toNat:=by unfold pN;rw[if_pos (by have:=h.1;omega)]
 have a:frT q b=four ((KL (pN q++b):Nat):Int)++(Ei q.toNat++b):=by unfold frT;rw[e]
 refine⟨?_,a⟩;unfold frB;rw[if_pos h,<-a];have c:pN ((frT q b).length:Int)=Ei (frT q b).length:=by unfold pN;rw[if_pos (by omega),Ac]
 rw[c]
theorem ARA{q q':Int}{b a d:List UInt8}(h:Pp q b)(j:Pp q' a)(X:frB q b <+: d)(E:frB q' a <+: d):q=q'/\b=a:=by
 obtain⟨r,rfl⟩:=X;obtain⟨Z,y⟩:=E;obtain⟨L,H⟩:=pI h;obtain⟨B,e⟩:=pI j;have hT:=Od h;have hT':=Od j;rw[L,B,<-H,<-e,Bv,Bv]at y;have O:=SP (w:=Ei (frT q b).length++(frT q b++r)) (pre:=[]) (i:=0) rfl rfl (by omega:(frT q b).length<=2147483647);have I:=SP (w:=Ei (frT q b).length++(frT q b++r)) (pre:=[]) (i:=0) (l:=frT q' a++Z) (by rw[<-y];rfl) rfl (by omega:(frT q' a).length<=2147483647);rw[O]at I;have S:(frT q b).length=(frT q' a).length:=by have:=congrArg Prod.fst I;simp at this;omega
 rw[<-S]at y;have G:=G8 y;have g:=(KE G (by omega)).1;rw[H,e]at g;have c:=(KE g (by rw[Ht,Ht])).2;have Q:=SP (w:=Ei q.toNat++b) (pre:=[]) (i:=0) rfl rfl (by have:=h.1;omega:q.toNat<=2147483647);have J:=SP (w:=Ei q.toNat++b) (pre:=[]) (i:=0) (l:=a) (by rw[<-c];rfl) rfl (by have:=j.1;omega:q'.toNat<=2147483647);rw[Q]at J;have Y:q.toNat=q'.toNat:=by have:=congrArg Prod.fst J;simp at this;omega
 rw[<-Y]at c;have:=h.1;have:=j.1;exact⟨by omega,(G8 c).symm⟩
def AA4(d:List UInt8)(i:Int):Ck×Bool:=
 open Classical in if h:∃x:Int×List UInt8,Pp x.1 x.2/\frB x.1 x.2 <+: d then (⟨h.choose.1,h.choose.2,i+(frB h.choose.1 h.choose.2).length⟩,true) else (⟨0,[],0⟩,false)
theorem ARC{q:Int}{b d:List UInt8}{i:Int}(h:Pp q b)(a:frB q b <+: d):AA4 d i=(⟨q,b,i+(frB q b).length⟩,true):=by
 unfold AA4;have c:∃x:Int×List UInt8,Pp x.1 x.2/\frB x.1 x.2 <+: d:=⟨(q,b),h,a⟩;rw[dif_pos c];obtain⟨j,y⟩:=c.choose_spec;obtain⟨e,g⟩:=ARA h j a y;rw[<-e,<-g]
theorem mI{d:List UInt8}{i:Int}(h:∀q b,Pp q b->¬frB q b <+: d):AA4 d i=(⟨0,[],0⟩,false):=by
 unfold AA4;rw[dif_neg];rintro⟨⟨q,b⟩,a,c⟩;exact h q b a c
theorem Uh(d:List UInt8)(i:Int):(∃q b,Pp q b/\frB q b <+: d/\AA4 d i=(⟨q,b,i+(frB q b).length⟩,true))\/((∀q b,Pp q b->¬frB q b <+: d)/\AA4 d i=(⟨0,[],0⟩,false)):=by
 by_cases h:∃q b,Pp q b/\frB q b <+: d
 .obtain⟨q,b,c,a⟩:=h;exact .inl ⟨q,b,c,a,ARC c a⟩
 .have a:∀q b,Pp q b->¬frB q b <+: d:=fun q b c a=>h ⟨q,b,c,a⟩
  exact .inr ⟨a,mI a⟩
def Wh(s:List UInt8)(i:Int):Ck×Bool:=if 0<=i/\i<=s.length then AA4 (s.drop i.toNat) i else (⟨0,[],0⟩,false)
@[simp] theorem g9(a b:Int):lW a b=some (if a<b then a else b):=by
 unfold lW;rw[BJ];split<;>rfl
theorem AP4{p d:List UInt8}{n:Nat}(h:p <+: d)(a:p.length<=n):p <+: d.take n:=by
 obtain⟨r,rfl⟩:=h;rw[J0];exact⟨(r.take (n-p.length)),by rw[BE a]⟩
theorem Z8(b:List UInt8):(b==[])=decide (b=[]):=by cases b<;>rfl
theorem s6{s:List UInt8}(hs:s.length<2 ^ 62)(i:Int):wD s i=some (Wh s i):=by
 unfold wD Wh;rw[af,AB,BN,BJ];by_cases hi:0<=i/\i<=(s.length:Int)
 rotate_left
 .rw[if_neg hi,if_neg hi]
 rw[if_pos hi,if_pos hi,g9,AB,A4 (by omega) (by omega)];generalize hx:(if (s.length:Int)<i+80 then (s.length:Int) else i+80)=x;have O:i<=x/\x<=(s.length:Int):=by split at hx<;>omega
 rw[Bt ⟨hi.1,O⟩];unfold Vy dR dS;have hW:(s.drop i.toNat).take (x.toNat-i.toNat)=(s.drop i.toNat).take 80:=by
  split at hx
  .rw[BE (by rw[BD];omega),BE (by rw[BD];omega)]
  .congr 1;omega
 rw[hW];generalize hd:s.drop i.toNat=d at *;have hdl:d.length=s.length-i.toNat:=by rw[<-hd,BD]
 generalize J:d.take 80=w;have hwl:w.length<=80/\w.length<=d.length:=by rw[<-J,BH];omega
 rw[Oo (by omega) _ (by omega),AB];have L:w <+: d:=by rw[<-J];exact HA _ _
 rcases Uh d i with ⟨q,b,c,hp,G⟩|⟨I,G⟩
 ·-- there is a frame
  have hl:=Wi c;obtain⟨r,j⟩:=AP4 (n:=80) hp (by omega);rw[J]at j;obtain⟨y,B⟩:=pI c;have hT:=Od c;have hq:=c.1;have Q:gN w 0=(((frT q b).length:Int),(((Ei (frT q b).length).length:Nat):Int),true):=by
   rw[SP (w:=w) (i:=0) (pre:=[]) (n:=(frT q b).length) (l:=frT q b++r) (by rw[<-j,y,<-B];simp) (by simp) (by omega)];simp
  have hm:=J9 (n:=(frT q b).length) (by omega);have hfl:(frB q b).length=(Ei (frT q b).length).length+(frT q b).length:=by rw[y,<-B,AN]
  have hwl2:w.length=(frB q b).length+r.length:=by rw[<-j,AN]
  generalize hM:(Ei (frT q b).length).length=M at *;generalize hN:(frT q b).length=N at *;have hN2:N=4+(Ei q.toNat).length+b.length:=by rw[<-hN,B];simp[Ht];omega
  rw[Q];dsimp only;rw[BN,BP,A4 (n:=(w.length:Int)-M) (by omega) (by omega),BJ,if_neg (by omega),decide_eq_false (by omega),AT,BS,A4 (n:=(M:Int)+4) (by omega) (by omega)];have S:gN w ((M:Int)+4)=(q,((M+4+(Ei q.toNat).length:Nat):Int),true):=by
   rw[SP (pre:=Ei N++four ((KL (pN q++b):Nat):Int)) (n:=q.toNat) (l:=b++r) (by rw[<-j,y];simp) (by simp[Ht,hM]) (by omega)];simp[Ht,hM];omega
  rw[Oo (by omega) _ (by omega),AB,S];dsimp only;rw[BN,BP,A4 (n:=(M:Int)+N) (by omega) (by omega),decide_eq_false (by omega),AT,BS,Bt (by omega),Bt (by omega)];have hb:((w.drop ((M+4+(Ei q.toNat).length:Nat):Int).toNat).take (((M:Int)+N).toNat-((M+4+(Ei q.toNat).length:Nat):Int).toNat))=b:=by
   have e3:w=(Ei N++four ((KL (pN q++b):Nat):Int)++Ei q.toNat)++(b++r):=by rw[<-j,y];simp
   rw[Ac,e3,CU (by simp[Ht,hM];omega),Ce (by omega)]
  have hf:((w.drop 0).take (((M:Int)+N).toNat-0))=frB q b:=by
   rw[Cb,<-j,Ce (by omega)]
  rw[hb,hf,RD,AB];have g:(frB q b != frB q b)=false:=by simp
  have E:(b==[])=false:=by rw[Z8];have:=c.2;cases b<;>simp at this ⊢
  rw[g,BS,AT,E,BS,G];have hfw:(((Ei N).length:Nat):Int)=M:=by omega
  simp only[AD,Au,and_true,Ck.mk.injEq,true_and];rw[A4 (n:=i+M) (by omega) (by omega),A4 (by omega) (by omega)];omega
 ·-- there is none
  rw[G];rcases hg:gN w 0 with ⟨n,m,ok⟩;cases ok with
  |false=>dsimp only;simp only[BN,BS,BP,AT]|true=>
   obtain⟨n',l,h1,h2,h3,h4,h5,h6⟩:=pK hg;have hn5:=J9 h6;have hwlen:w.length=(Ei n').length+l.length:=by have:=congrArg List.length h3;simpa using this
   dsimp only;rw[BN,BP,A4 (n:=(w.length:Int)-m) (by omega) (by omega),BJ];by_cases X:n>(w.length:Int)-m
   .rw[if_pos X];simp only[BP,AT]
   rw[if_neg X,AT,BJ];by_cases Y:n<5
   .rw[if_pos Y]
   rw[if_neg Y,A4 (n:=m+4) (by omega) (by omega),Oo (by omega) _ (by omega),AB];rcases H:gN w (m+4) with ⟨q,k,ok⟩;cases ok with
   |false=>dsimp only;simp only[BN,BS,BP,AT]|true=>
    obtain⟨q',l',Q,S,g3,g4,g5,g6⟩:=pK H;dsimp only;rw[BN,BP,A4 (n:=m+n) (by omega) (by omega),AT,BJ];by_cases Z:k>m+n
    .rw[if_pos Z]
    rw[if_neg Z,Bt (by omega),Bt (by omega),RD,AB,ADO,Cb,Nat.sub_zero];generalize hbb:List.take ((m+n).toNat-k.toNat) (List.drop k.toNat w)=bb;by_cases e:frB q bb=List.take (m+n).toNat w
    .rw[if_pos e];exfalso;have g:frB q bb≠[]:=by
      rw[e];intro h;have:=congrArg List.length h;rw[BH]at this;simp only[AP]at this;omega
     exact I q bb (AKj g) (by rw[e];exact(HA _ _).trans L)
    .rw[if_neg e];simp only[BP,AT]
theorem rI{s:List UInt8}(hs:s.length<2 ^ 62)(i:Int)(hi':i<2 ^ 62):KM s i=some (Wh s i):=by
 unfold KM Wh Mp;rw[QM,AB,AB,A4 (n:=(s.length:Int)-1) (by omega) (by omega),BN,BJ];by_cases hi:0<=i/\i<=(s.length:Int)
 rotate_left
 .rw[if_neg (by omega),if_neg hi]
 rw[if_pos hi];by_cases hi2:i=(s.length:Int)
 .rw[if_neg (by omega)];congr 1;rw[mI];intro q b E Y;have J:=Wi E;have:=Y.length_le;rw[BD]at this;omega
 rw[if_pos (by omega)];simp only[Bool.false_eq_true,if_false];rw[A4 (n:=i+5) (by omega) (by omega)];generalize hx:(if i+5<(s.length:Int) then i+5 else (s.length:Int))=x;have Q:i<=x/\x<=(s.length:Int):=by split at hx<;>omega
 rw[Bt ⟨hi.1,Q⟩];unfold IE KN;have hW:(s.drop i.toNat).take (x.toNat-i.toNat)=(s.drop i.toNat).take 5:=by
  split at hx
  .congr 1;omega
  .rw[BE (by rw[BD];omega),BE (by rw[BD];omega)]
 rw[hW];generalize hd:s.drop i.toNat=d at *;have hdl:d.length=s.length-i.toNat:=by rw[<-hd,BD]
 generalize hw:d.take 5=w;have hwl:w.length<=5/\w.length<=d.length:=by rw[<-hw,BH];omega
 rw[Og (by omega),AB];have h:∀m:Int,0<=m->i+m<=s.length->s.drop (i+m).toNat=d.drop m.toNat:=by
  intro m h0 E;rw[<-hd,List.drop_drop];congr 1;omega
 rcases Uh d i with ⟨q,b,c,hp,H⟩|⟨O,H⟩
 ·-- there is a frame
  have J:=Wi c;obtain⟨r,y⟩:=hp;obtain⟨B,e⟩:=pI c;have hT:=Od c;have hq:=c.1;have hm:=J9 (n:=(frT q b).length) (by omega);have S:gN w 0=(((frT q b).length:Int),(((Ei (frT q b).length).length:Nat):Int),true):=by
   rw[SP (w:=w) (i:=0) (pre:=[]) (n:=(frT q b).length) (l:=(frT q b++r).take (5-(Ei (frT q b).length).length)) (by
    rw[<-hw,<-y,B,<-e,Bv,J0,BE hm];rfl) (by simp) (by omega)];simp
  have hfl:(frB q b).length=(Ei (frT q b).length).length+(frT q b).length:=by rw[B,<-e,AN]
  have hdl2:d.length=(frB q b).length+r.length:=by rw[<-y,AN]
  generalize hM:(Ei (frT q b).length).length=M at *;generalize hN:(frT q b).length=N at *;have hN2:N=4+(Ei q.toNat).length+b.length:=by rw[<-hN,e];simp[Ht];omega
  rw[S];dsimp only;rw[BN,BP,BJ,if_neg (by omega),A4 (n:=(s.length:Int)-i) (by omega) (by omega),A4 (n:=(s.length:Int)-i-M) (by omega) (by omega),decide_eq_false (by omega),AT,BS];rw[A4 (n:=i+M) (by omega) (by omega),A4 (n:=i+M+N) (by omega) (by omega),Bt (by omega),h _ (by omega) (by omega),Ac];have hT2:(d.drop M).take ((i+M+N).toNat-(i+M).toNat)=frT q b:=by
   rw[<-y,B,<-e,Bv,CU hM,Ce (by omega)]
  rw[hT2];have X:gN (frT q b) 4=(q,((4+(Ei q.toNat).length:Nat):Int),true):=by
   rw[SP (pre:=four ((KL (pN q++b):Nat):Int)) (n:=q.toNat) (l:=b) e (by simp[Ht]) (by omega)];simp[Ht];omega
  rw[Og (by omega),AB,X];dsimp only;rw[BN,BP,Bt (by omega)];have hb:((frT q b).drop ((4+(Ei q.toNat).length:Nat):Int).toNat).take ((frT q b).length-((4+(Ei q.toNat).length:Nat):Int).toNat)=b:=by
   rw[Ac,hN,e,<-Bv,CU (by simp[Ht]),BE (by omega)]
  have hf:((d).take ((i+M+N).toNat-i.toNat))=frB q b:=by
   rw[<-y,Ce (by omega)]
  rw[hb,Qr,AB];have L:(frB q b==[])=false:=by rw[Z8];cases hh:frB q b with|nil=>rw[hh]at J;simp at J|cons=>rfl
  rw[L,BS,Bt (by omega),hf,AT];have j:(frB q b != frB q b)=false:=by simp
  rw[j,BS,H];simp only[AD,Au,and_true,Ck.mk.injEq,true_and];omega
 ·-- there is none
  rw[H];rcases hg:gN w 0 with ⟨n,m,ok⟩;cases ok with
  |false=>dsimp only;simp only[BN,BS,BP,AT]|true=>
   obtain⟨n',l,E,Y,h3,h4,h5,h6⟩:=pK hg;have hn5:=J9 h6;have hwlen:w.length=(Ei n').length+l.length:=by have:=congrArg List.length h3;simpa using this
   dsimp only;rw[BN,BP,BJ];by_cases Z:n<6
   .rw[if_pos Z];simp only[BP,AT]
   rw[if_neg Z,A4 (n:=(s.length:Int)-i) (by omega) (by omega),A4 (n:=(s.length:Int)-i-m) (by omega) (by omega),AT,BJ];by_cases h8:n>(s.length:Int)-i-m
   .rw[if_pos h8]
   rw[if_neg h8,A4 (n:=i+m) (by omega) (by omega),A4 (n:=i+m+n) (by omega) (by omega),Bt (by omega),h _ (by omega) (by omega)];generalize ht:(d.drop m.toNat).take ((i+m+n).toNat-(i+m).toNat)=t;have htl:t.length<=s.length:=by rw[<-ht,BH,BD];omega
   rw[Og (by omega),AB];rcases I:gN t 4 with ⟨q,k,ok⟩;cases ok with
   |false=>dsimp only;simp only[BN,BS,BP,AT]|true=>
    obtain⟨q',l',S,X,g3,g4,g5,g6⟩:=pK I;have hkl:k<=t.length:=by
     have:=congrArg List.length g3;rw[BD,AN]at this;omega
    dsimp only;rw[BN,BP,Bt (by omega),Qr,AB];generalize hbb:List.take (t.length-k.toNat) (List.drop k.toNat t)=bb;rw[Z8,BJ];by_cases G:frB q bb=[]
    .rw[if_pos G];simp only[BP,AT]
    rw[if_neg G,Bt (by omega),AT,ADO];by_cases g:frB q bb=List.take ((i+m+n).toNat-i.toNat) d
    .exfalso;exact O q bb (AKj G) (by rw[g];exact HA _ _)
    .rw[if_neg g]
theorem mH{s:List UInt8}{i:Int}(h:(Wh s i).2=true):0<=i/\i+7<=(Wh s i).1.Next/\(Wh s i).1.Next<=s.length:=by
 unfold Wh at h ⊢;split at h
 .rename_i hi;rw[if_pos hi];rcases Uh (s.drop i.toNat) i with ⟨q,b,c,j,a⟩|⟨g,a⟩
  .rw[a];have:=Wi c;have e:=j.length_le;rw[BD]at e;dsimp only;omega
  .rw[a]at h;simp at h
 .simp at h
def frs:Nat->List UInt8->Int->List Ck|0,_,_=>[]|f+1,s,i=>if (Wh s i).2=true then (Wh s i).1::frs f s (Wh s i).1.Next else []
def LL(s:List UInt8):List Ck:=frs (s.length+1) s 0
theorem pJ{s:List UInt8}(q:s.length<=1048576){G:Int->AA (Ck×Bool)}(hG:∀i:Int,0<=i->i<=s.length->G i=some (Wh s i)){F:(List Ck×Int->AA (List Ck))->List Ck×Int->AA (List Ck)}
 (hF:∀L acc i,F L (acc,i)=bd (G i) fun x=>br (!x.2) (some acc) (gd (acc.length+[x.1].length<=lim) (L (acc++[x.1],x.1.Next)))) :
 ∀(f n:Nat) (acc:List Ck) (i:Int),0<=i->i<=s.length->s.length<f+i->f<=n->(acc.length:Int)<=i->A7 F n (acc,i)=some (acc++frs f s i)
 |0,n,acc,i,a,c,e,g,h=>by omega|f+1,0,acc,i,a,c,e,g,h=>by omega|f+1,n+1,acc,i,a,c,e,g,h=>by
  rw[Dy,hF,hG i a c,AB,BN];unfold frs;cases y:(Wh s i).2 with
  |false=>simp|true=>
   have j:=mH y;rw[BP,Bt (by simp only[AI,AP];unfold lim;omega),if_pos rfl];rw[pJ q hG hF f n _ _ (by omega) j.2.2 (by omega) (by omega) (by rw[AN,AI,AP];omega)];simp
theorem AAA{s:List UInt8}(a:s.length<=1048576):AEE s=some (LL s):=by
 unfold AEE LL;have:=pJ a (G:=wD s) (F:=dT s) (fun i _ _=>s6 (by omega) i) (fun L acc i=>by unfold dT;rfl) (s.length+1) big [] 0 (by omega) (by omega) (by omega) (by have:=Ro;omega) (by simp);rw[this];simp
theorem yt{s:List UInt8}(a:s.length<=1048576):O0 s=some (LL s):=by
 unfold O0 LL;have:=pJ a (G:=KM s) (F:=LH s) (fun i _ _=>rI (by omega) i (by omega)) (fun L acc i=>by unfold LH;rfl) (s.length+1) big [] 0 (by omega) (by omega) (by omega) (by have:=Ro;omega) (by simp);rw[this];simp
theorem AFq:∀(f:Nat) (s:List UInt8) (i:Int),0<=i->i<=s.length->((frs f s i).length:Int)<=s.length-i
 |0,s,i,a,h=>by simp[frs];omega|f+1,s,i,a,h=>by
  unfold frs;split
  .rename_i e;have c:=mH e;have:=AFq f s (Wh s i).1.Next (by omega) c.2.2;rw[AI];omega
  .simp;omega
theorem gM(s:List UInt8):(LL s).length<=s.length:=by
 have:=AFq (s.length+1) s 0 (by omega) (by omega);unfold LL;omega
def AAV(p:Int):Int->List Ck->Int|r,[]=>r|r,f::l=>if f.Seq<=p then AAV p f.Next l else r
theorem XM{x:CN}(c:x.Log.Data.length<=1048576)(p:Int):AEF x p=some (AAV p 0 (LL x.Log.Data)):=by
 unfold AEF;rw[AAA c,AB];have g:=gM x.Log.Data;generalize LL x.Log.Data=l at *;refine DE (n:=l.length) (fun i (v:Int)=>(v,(i:Int))) (fun _ _=>True) (fun i v=>some (AAV p v (l.drop i))) (by omega) ?_ trivial;intro L i v _ hi e;unfold wG dU wF;dsimp only;simp only[dec_lt,AT];rcases AV i l.length with h|h
 .rw[decide_eq_true h,BP,A9 h,AB,AB,AB,AB,BJ,BX h (by omega),Dw h];unfold AAV;by_cases a:l[i].Seq<=p
  .rw[if_pos a,if_pos a,e _ trivial h]
  .rw[if_neg a,if_neg a]
 .rw[decide_eq_false (by omega),BS,BS,BI h];rfl
theorem rL{x:CN}(c:x.Log.Data.length<=1048576)(p:Int):Nh x p=some (AAV p 0 (LL x.Log.Data)):=by
 unfold Nh;rw[yt c,AB];have g:=gM x.Log.Data;generalize LL x.Log.Data=l at *;refine DE (n:=l.length) (fun i (v:Int)=>(v,(i:Int))) (fun _ _=>True) (fun i v=>some (AAV p v (l.drop i))) (by omega) ?_ trivial;intro L i v _ hi e;unfold OT KV;dsimp only;simp only[dec_lt,AT];rcases AV i l.length with h|h
 .rw[decide_eq_true h,BP,A9 h,AB,AB,BJ,BX h (by omega),Dw h];unfold AAV;by_cases a:l[i].Seq<=p
  .rw[if_neg (by omega),if_pos a,e _ trivial h]
  .rw[if_pos (by omega),if_neg a]
 .rw[decide_eq_false (by omega),BS,BI h];rfl
theorem ARB(q:Int):frB q []=[]:=by unfold frB;rw[if_neg (fun h=>by have:=h.2.1;simp at this)]
theorem AAB(n:Int)(q:B9):vm n q=some (frB n (U8 q)):=by
 unfold vm;rw[kI,AB,Z8,BJ];split
 .rename_i h;rw[h,ARB]
 .rw[RD,AB]
theorem yu(n:Int)(q:B9):vu n q=some (frB n (U8 q)):=by
 unfold vu;rw[j7,AB,Qr,AB]
theorem AKi(q:Int)(b:List UInt8):(frB q b).length<=74:=by
 by_cases h:Pp q b
 .exact(Wi h).2
 .unfold frB;rw[if_neg h];simp
theorem AT0{l:List Ae}(a:l.length<=1048576):ju l=some l:=Ou (by unfold lim;omega)
theorem uW{F:(Int×Aj->AA Aj)->Int×Aj->AA Aj}{w:Aj}(c:Cv w)
 (step:∀L i (h:i<w.Ag.length) (v:Aj),v.Ag.length=i->F L ((i:Int),v)=L (w64 ((i:Int)+1),⟨v.Ag++[w.Ag[i]]⟩)) (stop:∀L v,F L ((w.Ag.length:Int),v)=some v):A7 F big (0,⟨[]⟩)=some w:=by
 have e:=c.1;refine DE (n:=w.Ag.length) (fun i (v:Aj)=>((i:Int),v)) (fun i v=>v=⟨w.Ag.take i⟩) (fun _ _=>some w) (by omega) ?_ (v:=⟨[]⟩) (by simp);intro L i v a hi g;rcases AV i w.Ag.length with h|h
 .rw[step L i h v (by rw[a];simp;omega),BX h (by omega)]
  grind[List.take_add_one]
 .obtain rfl:i=w.Ag.length:=by omega
  rw[stop,a,J1]
theorem TK{w:Aj}(a:Cv w):cw w=some w:=by
 have hlim:lim=268435456:=rfl;have c:=a.1;have e:=a.2
 grind[cw,uW,KB,vg,BP,A9,AB,Bt,vf,BS,AT]
theorem TJ{w:Aj}(a:Cv w):dJ w=some w:=by
 have hlim:lim=268435456:=rfl;have c:=a.1;have e:=a.2
 grind[dJ,uW,KB,vq,BP,A9,AB,Bt,vn,BS,AT]
theorem AGz{c:Ad}(a:EU c):AD8 c=some c:=by
 unfold AD8;rw[AT0 a.1,AB,TK a.2,AB]
theorem AGy{c:Ad}(a:EU c):AEA c=some c:=by
 unfold AEA Vv;have:=a.1;rw[Bt (by unfold lim;omega),AB,TJ a.2,AB]
theorem VX{l:List Int}(a:l.length<=1048576):KZ l=some l:=by
 unfold KZ;rw[Bt (by unfold lim;omega)]
theorem uV{F:(Int×AE->AA AE)->Int×AE->AA AE}{h:AE}(e:Bf h)
 (step:∀L i (hi:i<h.AH.length) (v:AE),v.AH.length=i->F L ((i:Int),v)=L (w64 ((i:Int)+1),⟨v.AR,v.Now,v.As,v.AG,v.AH++[h.AH[i]],v.Az,v.Ay⟩)) (stop:∀L v,F L ((h.AH.length:Int),v)=some v):A7 F big (0,⟨h.AR,h.Now,h.As,h.AG,[],h.Az,h.Ay⟩)=some h:=by
 have g:=e.De;refine DE (n:=h.AH.length) (fun i (v:AE)=>((i:Int),v)) (fun i v=>v=⟨h.AR,h.Now,h.As,h.AG,h.AH.take i,h.Az,h.Ay⟩) (fun _ _=>some h) (by omega) ?_ (v:=⟨h.AR,h.Now,h.As,h.AG,[],h.Az,h.Ay⟩) (by simp);intro L i v c hi j;rcases AV i h.AH.length with a|a
 .rw[step L i a v (by rw[c];simp;omega),BX a (by omega)]
  grind[List.take_add_one]
 .obtain rfl:i=h.AH.length:=by omega
  rw[stop,c,J1]
theorem HB{h:AE}(a:Bf h):Np h=some h:=by
 have hlim:lim=268435456:=rfl;have c:=a.Df;have p1:=a.B4;have p2:=a.todo;have p3:=a.E8;have p4:=a.De;have e:0+h.AG.length<=lim:=by omega
 have g:0+h.Az.length<=lim:=by omega
 have j:0+h.Ay.length<=lim:=by omega
 unfold Np;simp only[ma c,AB,Bt e,Bt g,Bt j,ADK,Bk,Kt,H5,Cu,CE,vi,Lt,vj,dB,Cj,ky,PZ,Xn,NL,NM,lA,kz,dC,lC,Xo,Xq,Xp,Xr,lE,lD,lB,Hy,lH,Xs,Xu,Xt,Xv,lJ,lI,lG,TT,Xw,Xx,lN,lM,lL,lR,Xy,lQ,lP,lU,lT,lS,lO,lK,lF];refine uV a ?_ ?_
 .intro L i hi v q;unfold Xz;dsimp only;rw[Bw hi,BP,A9 hi,AB,AGz (a.Dk _ (BC hi)),AB,Bt (by rw[KD];omega)]
 grind[Xz,lV,BS,AT]
theorem GJ{h:AE}(a:Bf h):Nq h=some h:=by
 have hlim:lim=268435456:=rfl;have c:=a.Df;have p1:=a.B4;have p2:=a.todo;have p3:=a.E8;have p4:=a.De;have e:0+h.AG.length<=lim:=by omega
 unfold Nq;simp only[AHT c,AB,Bt e,VX p2,VX p3,CQ,Ic,Ie,Ig,Ih,H5,Ii,Ij,Kt,I2,Li,Ov,NI,RM];refine uV a ?_ ?_
 .intro L i hi v g;unfold dK;dsimp only;rw[Bw hi,BP,A9 hi,AB,AGy (a.Dk _ (BC hi)),AB,Bt (by rw[KD];omega)]
 grind[dK,vr,BS,AT]
theorem LG{e:Ap}(a:CR e):ZH e=some e:=by
 have hlim:lim=268435456:=rfl;have:=a.laid;have g:0+e.Laid.length<=lim:=by omega
 unfold ZH;simp only[HB a.EN,AB,Bt g,CQ,Ic,Ie,Ig,Ih,H5,Ii,Ij,Kt,I2,Li,Ov,NI,RM,Bk]
theorem QV{e:Ap}(a:CR e):dL e=some e:=by
 have hlim:lim=268435456:=rfl;have:=a.laid;unfold dL;rw[GJ a.EN,AB,Bt (by omega)]
def GP(a:CH)(s:List UInt8):CH×Bool:=if KI a=true/\(a.Data.length:Int)+s.length<=20000 then (⟨a.Data++s,a.Safe⟩,true) else (a,false)
theorem kU{a:CH}:KI a=true↔(a.Data.length:Int)<=20000/\0<=a.Safe/\a.Safe<=a.Data.length:=by
 grind[KI,B8]
theorem Sw{a:CH}{s:List UInt8}(c:s.length<=4000):dF a s=some (GP a s):=by
 grind[OE,dF,dG,GP,MN,AB,BN,AT,KI,A4,Bt,BJ]
theorem ZW{a:CH}{s:List UInt8}(c:a.Data.length<=1048576)(e:s.length<=4000):dN a s=some (GP a s):=by
 grind[OE,dN,dO,GP,Bt,MD,AB,AT,BP,kU,BS]
def H7(e:Ap)(q:B9):Ap×Int:=
 if GV e=false then (e,21) else if KC q=false then (e,22) else if e.Seq=1000000 then (e,23) else if e.Laid.length=8\/(GP e.Bi.Log (frB (w64 (e.Seq+1)) (U8 q))).2=false then (e,24)
 else (⟨e.BU,⟨(GP e.Bi.Log (frB (w64 (e.Seq+1)) (U8 q))).1,e.Bi.GG,e.Bi.Odd⟩,w64 (e.Seq+1),e.Laid++[q]⟩,0)
theorem XL{e:Ap}(a:CR e)(q:B9):dH e q=some (H7 e q):=by
 have hlim:lim=268435456:=rfl;have g:=a.laid;have c:=AKi (w64 (e.Seq+1)) (U8 q);unfold dH H7;simp only[LG a,Lf a,jS,AAB,Sw (Ar c (by omega):(frB (w64 (e.Seq+1)) (U8 q)).length<=4000),AB,CQ,Ic,Ie,Ig,Ih,H5,Ii,Ij,Kt,I2,Li,Ov,NI,RM,BN,AT];unfold dI;rw[BN,BP,Bt (by rw[KD];omega)];cases GV e with
 |false=>rfl|true=>
  cases KC q with
  |false=>rfl|true=>
   simp only[BP,Bb,beq_iff_eq]
   grind
theorem ANg{e:Ap}(a:CR e)(q:B9):AEC e q=some (H7 e q):=by
 have hlim:lim=268435456:=rfl;have g:=a.laid;have c:=AKi (w64 (e.Seq+1)) (U8 q);unfold AEC H7;simp only[QV a,Lb a,gv,yu,ZW a.log (Ar c (by omega):(frB (w64 (e.Seq+1)) (U8 q)).length<=4000),AB,CQ,Ic,Ie,Ig,Ih,H5,Ii,Ij,Kt,I2,Li,Ov,NI,RM,BN]
 grind[Bt,Bb]
theorem Jp{e:Ap}(h:GV e=true):Dr e.BU=true/\S8 e.Bi=true/\e.Laid.length<=8/\((e.Laid.length:Int)<=e.Seq/\e.Seq<=1000000)/\e.Laid.all KC=true:=by
 grind[GV,B8]
theorem Y7{a:CH}{s:List UInt8}(c:a.Data.length<=1048576):(GP a s).1.Data.length<=1048576:=by
 grind[GP]
theorem Pv{e:Ap}(a:CR e)(q:B9):CR (H7 e q).1:=by
 unfold H7;split
 .exact a
 .rename_i c;rw[Bool.not_eq_false]at c;have g:=Jp c;split
  .exact a
  .split
   .exact a
   .split
    .exact a
    .exact⟨a.EN,Y7 a.log,a.even,a.odd,by dsimp only;rw[AN,List.length_singleton];omega⟩
end Lv.P
