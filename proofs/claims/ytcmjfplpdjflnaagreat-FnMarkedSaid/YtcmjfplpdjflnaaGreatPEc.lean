/- Plain laws about what the program computes. -/
import Derived.Test.YtcmjfplpdjflnaaGreatPDc
noncomputable section
set_option linter.unusedVariables false
set_option linter.unusedSimpArgs false
set_option linter.unusedSectionVars false
open Int renaming toNat_natCast->Ah
open List renaming append_assoc->CC,append_inj->Kb,drop_eq_nil_of_le->A5,drop_left'->Ck,drop_zero->Cu,getElem_mem->As,length_append->AK,length_cons->AH,length_drop->BK,length_nil->AN,length_take->BI,nil_append->B8,take_left'->Cx,take_length->KK,take_of_length_le->BU,take_prefix->Hk
open Nat renaming lt_or_ge->AV
open Option.some renaming injEq->AD
open Prod.mk renaming injEq->A0
namespace Lv.P
open Go (IntKind BinOp UnOp)
theorem Sr{w pre l:List UInt8}{n:Nat}{i:Int}(a:w=pre++(FO n++l))(hi:i=pre.length)(c:n<=2147483647):gN w i=((n:Int),((pre.length+(FO n).length:Nat):Int),true):=by
 subst a;subst hi;have:=IG n;unfold gN
 grind[List.length_append,Int.toNat_natCast,List.drop_left,xC,KT,tW]
theorem tV{w:List UInt8}{i n j:Int}(h:gN w i=(n,j,true)):∃(m:Nat) (l:List UInt8),0<=i/\i<w.length/\w.drop i.toNat=FO m++l/\n=(m:Int)/\j=i+(FO m).length/\m<=2147483647:=by
 unfold gN at h;split at h
 .rename_i hi;cases a:rdN 5 0 0 (w.drop i.toNat) with
  |none=>rw[a]at h;simp[tW]at h|some x=>
   grind[tW,Prod.mk.injEq,cj]
 .simp at h
theorem tT{q:Int}{b:List UInt8}(h:Qr q b):frB q b=FO (frT q b).length++(four ((KO (pN q++b):Nat):Int)++(FO q.toNat++b))/\frT q b=four ((KO (pN q++b):Nat):Int)++(FO q.toNat++b):=by
 have hT:=Ob h;have e:pN q=FO q.toNat:=by unfold pN;rw[AX (by have:=h.1;omega)]
 have a:frT q b=four ((KO (pN q++b):Nat):Int)++(FO q.toNat++b):=by unfold frT;rw[e]
 refine⟨?_,a⟩;unfold frB;rw[AX h,<-a];have c:pN ((frT q b).length:Int)=FO (frT q b).length:=by unfold pN;rw[AX (by omega),Ah]
 rw[c]
theorem AUz{q q':Int}{b a d:List UInt8}(h:Qr q b)(j:Qr q' a)(X:frB q b <+: d)(E:frB q' a <+: d):q=q'/\b=a:=by
 obtain⟨r,rfl⟩:=X;obtain⟨r',y⟩:=E;obtain⟨L,H⟩:=tT h;obtain⟨B,c⟩:=tT j;have hT:=Ob h;have hT':=Ob j;rw[L,B,<-H,<-c,CC,CC]at y;have O:=Sr (w:=FO (frT q b).length++(frT q b++r)) (pre:=[]) (i:=0) rfl rfl (by omega:(frT q b).length<=2147483647);have I:=Sr (w:=FO (frT q b).length++(frT q b++r)) (pre:=[]) (i:=0) (l:=frT q' a++r') (by rw[<-y];rfl) rfl (by omega:(frT q' a).length<=2147483647);rw[O]at I;have S:(frT q b).length=(frT q' a).length:=by have:=congrArg Prod.fst I;simp at this;omega
 rw[<-S]at y;have G:=List.append_cancel_left y;have e:=(Kb G (by omega)).1;rw[H,c]at e;have g:=(Kb e (by rw[G4,G4])).2;have Q:=Sr (w:=FO q.toNat++b) (pre:=[]) (i:=0) rfl rfl (by have:=h.1;omega:q.toNat<=2147483647);have J:=Sr (w:=FO q.toNat++b) (pre:=[]) (i:=0) (l:=a) (by rw[<-g];rfl) rfl (by have:=j.1;omega:q'.toNat<=2147483647);rw[Q]at J;have Y:q.toNat=q'.toNat:=by have:=congrArg Prod.fst J;simp at this;omega
 rw[<-Y]at g;have:=h.1;have:=j.1
 grind[List.append_cancel_left]
def ADu(d:List UInt8)(i:Int):Bs×Bool:=
 open Classical in if h:∃x:Int×List UInt8,Qr x.1 x.2/\frB x.1 x.2 <+: d then (⟨h.choose.1,h.choose.2,i+(frB h.choose.1 h.choose.2).length⟩,true) else (⟨0,[],0⟩,false)
theorem AU1{q:Int}{b d:List UInt8}{i:Int}(h:Qr q b)(a:frB q b <+: d):ADu d i=(⟨q,b,i+(frB q b).length⟩,true):=by
 unfold ADu;have c:∃x:Int×List UInt8,Qr x.1 x.2/\frB x.1 x.2 <+: d:=⟨(q,b),h,a⟩
 grind[AUz]
theorem px{d:List UInt8}{i:Int}(h:∀q b,Qr q b->¬frB q b <+: d):ADu d i=(⟨0,[],0⟩,false):=by
 grind[ADu]
theorem Qs(d:List UInt8)(i:Int):(∃q b,Qr q b/\frB q b <+: d/\ADu d i=(⟨q,b,i+(frB q b).length⟩,true))\/((∀q b,Qr q b->¬frB q b <+: d)/\ADu d i=(⟨0,[],0⟩,false)):=by
 grind[Qr,frB,AU1,px]
def VB(s:List UInt8)(i:Int):Bs×Bool:=if 0<=i/\i<=s.length then ADu (s.drop i.toNat) i else (⟨0,[],0⟩,false)
@[simp] theorem MN(a b:Int):aP a b=some (if a<b then a else b):=by
 unfold aP;rw[BL];split<;>rfl
theorem ATo{p d:List UInt8}{n:Nat}(h:p <+: d)(a:p.length<=n):p <+: d.take n:=by
 grind[List.take_append,List.take_of_length_le]
theorem bk(b:List UInt8):(b==[])=decide (b=[]):=by cases b<;>rfl
theorem xR{s:List UInt8}(hs:s.length<2 ^ 62)(i:Int):zU s i=some (VB s i):=by
 unfold zU VB;rw[cV,AB,BP,BL];by_cases hi:0<=i/\i<=(s.length:Int)
 rotate_left
 .rw[AU hi,AU hi]
 rw[AX hi,AX hi,MN,AB,A6 (by omega) (by omega)];generalize hx:(if (s.length:Int)<i+80 then (s.length:Int) else i+80)=x;have O:i<=x/\x<=(s.length:Int):=by split at hx<;>omega
 rw[B6 ⟨hi.1,O⟩];unfold WT fL fM;have hW:(s.drop i.toNat).take (x.toNat-i.toNat)=(s.drop i.toNat).take 80:=by
  split at hx
  .rw[BU (by rw[BK];omega),BU (by rw[BK];omega)]
  .congr 1;omega
 rw[hW];generalize hd:s.drop i.toNat=d at *;have hdl:d.length=s.length-i.toNat:=by rw[<-hd,BK]
 generalize J:d.take 80=w;have hwl:w.length<=80/\w.length<=d.length:=by rw[<-J,BI];omega
 rw[Oq (by omega) _ (by omega),AB];have L:w <+: d:=by rw[<-J];exact Hk _ _
 rcases Qs d i with ⟨q,b,c,hp,G⟩|⟨I,G⟩
 ·-- there is a frame
  have hl:=XN c;obtain⟨r,j⟩:=ATo (n:=80) hp (by omega);rw[J]at j;obtain⟨y,B⟩:=tT c;have hT:=Ob c;have hq:=c.1;have Q:gN w 0=(((frT q b).length:Int),(((FO (frT q b).length).length:Nat):Int),true):=by
   rw[Sr (w:=w) (i:=0) (pre:=[]) (n:=(frT q b).length) (l:=frT q b++r) (by rw[<-j,y,<-B];simp) (by simp) (by omega)];simp
  have hm:=KT (n:=(frT q b).length) (by omega);have hfl:(frB q b).length=(FO (frT q b).length).length+(frT q b).length:=by rw[y,<-B,AK]
  have hwl2:w.length=(frB q b).length+r.length:=by rw[<-j,AK]
  generalize hM:(FO (frT q b).length).length=M at *;generalize hN:(frT q b).length=N at *;have hN2:N=4+(FO q.toNat).length+b.length:=by rw[<-hN,B];simp[G4];omega
  rw[Q];dsimp only;rw[BP,BJ,A6 (n:=(w.length:Int)-M) (by omega) (by omega),BL,AU (by omega),decide_eq_false (by omega),AR,BT,A6 (n:=(M:Int)+4) (by omega) (by omega)];have S:gN w ((M:Int)+4)=(q,((M+4+(FO q.toNat).length:Nat):Int),true):=by
   rw[Sr (pre:=FO N++four ((KO (pN q++b):Nat):Int)) (n:=q.toNat) (l:=b++r) (by rw[<-j,y];simp) (by simp[G4,hM]) (by omega)];simp[G4,hM];omega
  rw[Oq (by omega) _ (by omega),AB,S];dsimp only;rw[BP,BJ,A6 (n:=(M:Int)+N) (by omega) (by omega),decide_eq_false (by omega),AR,BT,B6 (by omega),B6 (by omega)];have hb:((w.drop ((M+4+(FO q.toNat).length:Nat):Int).toNat).take (((M:Int)+N).toNat-((M+4+(FO q.toNat).length:Nat):Int).toNat))=b:=by
   have e3:w=(FO N++four ((KO (pN q++b):Nat):Int)++FO q.toNat)++(b++r):=by rw[<-j,y];simp
   rw[Ah,e3,Ck (by simp[G4,hM];omega),Cx (by omega)]
  have hf:((w.drop 0).take (((M:Int)+N).toNat-0))=frB q b:=by
   rw[Cu,<-j,Cx (by omega)]
  rw[hb,hf,RP,AB];have g:(frB q b != frB q b)=false:=by simp
  have E:(b==[])=false:=by rw[bk];have:=c.2;cases b<;>simp at this ⊢
  rw[g,BT,AR,E,BT,G];have hfw:(((FO N).length:Nat):Int)=M:=by omega
  simp only[AD,A0,and_true,Bs.mk.injEq,true_and];rw[A6 (n:=i+M) (by omega) (by omega),A6 (by omega) (by omega)];omega
 ·-- there is none
  rw[G];rcases hg:gN w 0 with ⟨n,m,ok⟩;cases ok with
  |false=>dsimp only;simp only[BP,BT,BJ,AR]|true=>
   obtain⟨n',l,h1,h2,h3,h4,h5,h6⟩:=tV hg;have hn5:=KT h6;have hwlen:w.length=(FO n').length+l.length:=by have:=congrArg List.length h3;simpa using this
   dsimp only;rw[BP,BJ,A6 (n:=(w.length:Int)-m) (by omega) (by omega),BL];by_cases X:n>(w.length:Int)-m
   .rw[AX X];simp only[BJ,AR]
   rw[AU X,AR,BL];by_cases Y:n<5
   .rw[AX Y]
   rw[AU Y,A6 (n:=m+4) (by omega) (by omega),Oq (by omega) _ (by omega),AB];rcases H:gN w (m+4) with ⟨q,k,ok⟩;cases ok with
   |false=>dsimp only;simp only[BP,BT,BJ,AR]|true=>
    obtain⟨q',l',Q,S,g3,g4,g5,g6⟩:=tV H;dsimp only;rw[BP,BJ,A6 (n:=m+n) (by omega) (by omega),AR,BL];by_cases Z:k>m+n
    .rw[AX Z]
    rw[AU Z,B6 (by omega),B6 (by omega),RP,AB,sF,Cu,Nat.sub_zero];generalize hbb:List.take ((m+n).toNat-k.toNat) (List.drop k.toNat w)=bb;by_cases e:frB q bb=List.take (m+n).toNat w
    .rw[AX e];exfalso;have g:frB q bb≠[]:=by
      rw[e];intro h;have:=congrArg List.length h;rw[BI]at this;simp only[AN]at this;omega
     exact I q bb (AN7 g) (by rw[e];exact(Hk _ _).trans L)
    .rw[AU e];simp only[BJ,AR]
theorem vG{s:List UInt8}(hs:s.length<2 ^ 62)(i:Int)(hi':i<2 ^ 62):zX s i=some (VB s i):=by
 unfold zX VB Ms;rw[QX,AB,AB,A6 (n:=(s.length:Int)-1) (by omega) (by omega),BP,BL];by_cases hi:0<=i/\i<=(s.length:Int)
 rotate_left
 .rw[AU (by omega),AU hi]
 rw[AX hi];by_cases hi2:i=(s.length:Int)
 .rw[AU (by omega)];congr 1;rw[px];intro q b E Y;have J:=XN E;have:=Y.length_le;rw[BK]at this;omega
 rw[AX (by omega)];simp only[Bool.false_eq_true,if_false];rw[A6 (n:=i+5) (by omega) (by omega)];generalize hx:(if i+5<(s.length:Int) then i+5 else (s.length:Int))=x;have Q:i<=x/\x<=(s.length:Int):=by split at hx<;>omega
 rw[B6 ⟨hi.1,Q⟩];unfold WU fP;have hW:(s.drop i.toNat).take (x.toNat-i.toNat)=(s.drop i.toNat).take 5:=by
  split at hx
  .congr 1;omega
  .rw[BU (by rw[BK];omega),BU (by rw[BK];omega)]
 rw[hW];generalize hd:s.drop i.toNat=d at *;have hdl:d.length=s.length-i.toNat:=by rw[<-hd,BK]
 generalize hw:d.take 5=w;have hwl:w.length<=5/\w.length<=d.length:=by rw[<-hw,BI];omega
 rw[Of (by omega),AB];have h:∀m:Int,0<=m->i+m<=s.length->s.drop (i+m).toNat=d.drop m.toNat:=by
  intro m h0 E;rw[<-hd,List.drop_drop];congr 1;omega
 rcases Qs d i with ⟨q,b,c,hp,H⟩|⟨O,H⟩
 ·-- there is a frame
  have J:=XN c;obtain⟨r,y⟩:=hp;obtain⟨B,e⟩:=tT c;have hT:=Ob c;have hq:=c.1;have hm:=KT (n:=(frT q b).length) (by omega);have S:gN w 0=(((frT q b).length:Int),(((FO (frT q b).length).length:Nat):Int),true):=by
   rw[Sr (w:=w) (i:=0) (pre:=[]) (n:=(frT q b).length) (l:=(frT q b++r).take (5-(FO (frT q b).length).length)) (by
    rw[<-hw,<-y,B,<-e,CC,List.take_append,BU hm];rfl) (by simp) (by omega)];simp
  have hfl:(frB q b).length=(FO (frT q b).length).length+(frT q b).length:=by rw[B,<-e,AK]
  have hdl2:d.length=(frB q b).length+r.length:=by rw[<-y,AK]
  generalize hM:(FO (frT q b).length).length=M at *;generalize hN:(frT q b).length=N at *;have hN2:N=4+(FO q.toNat).length+b.length:=by rw[<-hN,e];simp[G4];omega
  rw[S];dsimp only;rw[BP,BJ,BL,AU (by omega),A6 (n:=(s.length:Int)-i) (by omega) (by omega),A6 (n:=(s.length:Int)-i-M) (by omega) (by omega),decide_eq_false (by omega),AR,BT];rw[A6 (n:=i+M) (by omega) (by omega),A6 (n:=i+M+N) (by omega) (by omega),B6 (by omega),h _ (by omega) (by omega),Ah];have hT2:(d.drop M).take ((i+M+N).toNat-(i+M).toNat)=frT q b:=by
   rw[<-y,B,<-e,CC,Ck hM,Cx (by omega)]
  rw[hT2];have X:gN (frT q b) 4=(q,((4+(FO q.toNat).length:Nat):Int),true):=by
   rw[Sr (pre:=four ((KO (pN q++b):Nat):Int)) (n:=q.toNat) (l:=b) e (by simp[G4]) (by omega)];simp[G4];omega
  rw[Of (by omega),AB,X];dsimp only;rw[BP,BJ,B6 (by omega)];have hb:((frT q b).drop ((4+(FO q.toNat).length:Nat):Int).toNat).take ((frT q b).length-((4+(FO q.toNat).length:Nat):Int).toNat)=b:=by
   rw[Ah,hN,e,<-CC,Ck (by simp[G4]),BU (by omega)]
  have hf:((d).take ((i+M+N).toNat-i.toNat))=frB q b:=by
   rw[<-y,Cx (by omega)]
  rw[hb,XT,AB];have L:(frB q b==[])=false:=by rw[bk];cases hh:frB q b with|nil=>rw[hh]at J;simp at J|cons=>rfl
  rw[L,BT,B6 (by omega),hf,AR];have j:(frB q b != frB q b)=false:=by simp
  rw[j,BT,H];simp only[AD,A0,and_true,Bs.mk.injEq,true_and];omega
 ·-- there is none
  rw[H];rcases hg:gN w 0 with ⟨n,m,ok⟩;cases ok with
  |false=>dsimp only;simp only[BP,BT,BJ,AR]|true=>
   obtain⟨n',l,E,Y,h3,h4,h5,h6⟩:=tV hg;have hn5:=KT h6;have hwlen:w.length=(FO n').length+l.length:=by have:=congrArg List.length h3;simpa using this
   dsimp only;rw[BP,BJ,BL];by_cases Z:n<6
   .rw[AX Z];simp only[BJ,AR]
   rw[AU Z,A6 (n:=(s.length:Int)-i) (by omega) (by omega),A6 (n:=(s.length:Int)-i-m) (by omega) (by omega),AR,BL];by_cases h8:n>(s.length:Int)-i-m
   .rw[AX h8]
   rw[AU h8,A6 (n:=i+m) (by omega) (by omega),A6 (n:=i+m+n) (by omega) (by omega),B6 (by omega),h _ (by omega) (by omega)];generalize ht:(d.drop m.toNat).take ((i+m+n).toNat-(i+m).toNat)=t;have htl:t.length<=s.length:=by rw[<-ht,BI,BK];omega
   rw[Of (by omega),AB];rcases I:gN t 4 with ⟨q,k,ok⟩;cases ok with
   |false=>dsimp only;simp only[BP,BT,BJ,AR]|true=>
    obtain⟨q',l',S,X,g3,g4,g5,g6⟩:=tV I;have hkl:k<=t.length:=by
     have:=congrArg List.length g3;rw[BK,AK]at this;omega
    dsimp only;rw[BP,BJ,B6 (by omega),XT,AB];generalize hbb:List.take (t.length-k.toNat) (List.drop k.toNat t)=bb;rw[bk,BL];by_cases G:frB q bb=[]
    .rw[AX G];simp only[BJ,AR]
    rw[AU G,B6 (by omega),AR,sF];by_cases g:frB q bb=List.take ((i+m+n).toNat-i.toNat) d
    .exfalso;exact O q bb (AN7 G) (by rw[g];exact Hk _ _)
    .rw[AU g]
theorem Y1{s:List UInt8}{i:Int}(h:(VB s i).2=true):0<=i/\i+7<=(VB s i).1.Next/\(VB s i).1.Next<=s.length:=by
 unfold VB at h ⊢;split at h
 .rename_i hi;rw[AX hi];rcases Qs (s.drop i.toNat) i with ⟨q,b,c,j,a⟩|⟨g,a⟩
  .rw[a];have:=XN c;have e:=j.length_le;rw[BK]at e;dsimp only;omega
  .rw[a]at h;simp at h
 .simp at h
def frs:Nat->List UInt8->Int->List Bs|0,_,_=>[]|f+1,s,i=>if (VB s i).2=true then (VB s i).1::frs f s (VB s i).1.Next else []
def Da(s:List UInt8):List Bs:=frs (s.length+1) s 0
theorem tU{s:List UInt8}(q:s.length<=1048576){G:Int->AA (Bs×Bool)}(hG:∀i:Int,0<=i->i<=s.length->G i=some (VB s i)){F:(List Bs×Int->AA (List Bs))->List Bs×Int->AA (List Bs)}
 (hF:∀L acc i,F L (acc,i)=bd (G i) fun x=>br (!x.2) (some acc) (gd (acc.length+[x.1].length<=lim) (L (acc++[x.1],x.1.Next)))) :
 ∀(f n:Nat) (acc:List Bs) (i:Int),0<=i->i<=s.length->s.length<f+i->f<=n->(acc.length:Int)<=i->BB F n (acc,i)=some (acc++frs f s i)
 |0,n,acc,i,a,c,e,g,h=>by omega|f+1,0,acc,i,a,c,e,g,h=>by omega|f+1,n+1,acc,i,a,c,e,g,h=>by
  rw[Dy,hF,hG i a c,AB,BP];unfold frs;cases y:(VB s i).2 with
  |false=>simp|true=>
   have j:=Y1 y;rw[BJ,B6 (by simp only[AH,AN];unfold lim;omega),AX rfl];rw[tU q hG hF f n _ _ (by omega) j.2.2 (by omega) (by omega) (by rw[AK,AH,AN];omega)];simp
theorem TU{s:List UInt8}(a:s.length<=1048576):oK s=some (Da s):=by
 unfold oK Da;have:=tU a (G:=zU s) (F:=fN s) (fun i _ _=>xR (by omega) i) (fun L acc i=>by unfold fN;rfl) (s.length+1) big [] 0 (by omega) (by omega) (by omega) (by have:=Qg;omega) (by simp);rw[this];simp
theorem S4{s:List UInt8}(a:s.length<=1048576):pC s=some (Da s):=by
 unfold pC Da;have:=tU a (G:=zX s) (F:=gG s) (fun i _ _=>vG (by omega) i (by omega)) (fun L acc i=>by unfold gG;rfl) (s.length+1) big [] 0 (by omega) (by omega) (by omega) (by have:=Qg;omega) (by simp);rw[this];simp
theorem AIt:∀(f:Nat) (s:List UInt8) (i:Int),0<=i->i<=s.length->((frs f s i).length:Int)<=s.length-i
 |0,s,i,a,h=>by simp[frs];omega|f+1,s,i,a,h=>by
  unfold frs;split
  .rename_i e;have c:=Y1 e;have:=AIt f s (VB s i).1.Next (by omega) c.2.2;rw[AH];omega
  .simp;omega
theorem KA(s:List UInt8):(Da s).length<=s.length:=by
 have:=AIt (s.length+1) s 0 (by omega) (by omega);unfold Da;omega
def RZ(p:Int):Int->List Bs->Int|r,[]=>r|r,f::l=>if f.Seq<=p then RZ p f.Next l else r
theorem RQ{x:Bo}(c:x.Log.Data.length<=1048576)(p:Int):AG2 x p=some (RZ p 0 (Da x.Log.Data)):=by
 unfold AG2;rw[TU c,AB];have g:=KA x.Log.Data;generalize Da x.Log.Data=l at *;refine C9 (n:=l.length) (fun i (v:Int)=>(v,(i:Int))) (fun _ _=>True) (fun i v=>some (RZ p v (l.drop i))) (by omega) ?_ trivial;intro L i v _ hi e;unfold zW fO zV;dsimp only;simp only[dec_lt,AR];rcases AV i l.length with h|h
 .rw[decide_eq_true h,BJ,BH h,AB,AB,AB,AB,BL,Bg h (by omega),Dc h];unfold RZ;by_cases a:l[i].Seq<=p
  .rw[AX a,AX a,e _ trivial h]
  .rw[AU a,AU a]
 .rw[decide_eq_false (by omega),BT,BT,A5 h];rfl
theorem XU{x:Bo}(c:x.Log.Data.length<=1048576)(p:Int):AAE x p=some (RZ p 0 (Da x.Log.Data)):=by
 unfold AAE;rw[S4 c,AB];have g:=KA x.Log.Data;generalize Da x.Log.Data=l at *;refine C9 (n:=l.length) (fun i (v:Int)=>(v,(i:Int))) (fun _ _=>True) (fun i v=>some (RZ p v (l.drop i))) (by omega) ?_ trivial;intro L i v _ hi e;unfold AAF gH;dsimp only;simp only[dec_lt,AR];rcases AV i l.length with h|h
 .rw[decide_eq_true h,BJ,BH h,AB,AB,BL,Bg h (by omega),Dc h];unfold RZ;by_cases a:l[i].Seq<=p
  .rw[AU (by omega),AX a,e _ trivial h]
  .rw[AX (by omega),AU a]
 .rw[decide_eq_false (by omega),BT,A5 h];rfl
theorem AU0(q:Int):frB q []=[]:=by unfold frB;rw[AU (fun h=>by have:=h.2.1;simp at this)]
theorem AC3(n:Int)(q:B1):zm n q=some (frB n (HK q)):=by
 unfold zm;rw[Up,AB,bk,BL];split
 .rename_i h;rw[h,AU0]
 .rw[RP,AB]
theorem AW1(q:Int)(b:List UInt8):(frB q b).length<=74:=by
 by_cases h:Qr q b
 .exact(XN h).2
 .unfold frB;rw[AU h];simp
theorem AXz{l:List Ai}(a:l.length<=1048576):nC l=some l:=Ov (by unfold lim;omega)
theorem ya{F:(Int×Aq->AA Aq)->Int×Aq->AA Aq}{w:Aq}(c:Cz w)
 (step:∀L i (h:i<w.Am.length) (v:Aq),v.Am.length=i->F L ((i:Int),v)=L (w64 ((i:Int)+1),⟨v.Am++[w.Am[i]]⟩)) (stop:∀L v,F L ((w.Am.length:Int),v)=some v):BB F big (0,⟨[]⟩)=some w:=by
 have e:=c.1;refine C9 (n:=w.Am.length) (fun i (v:Aq)=>((i:Int),v)) (fun i v=>v=⟨w.Am.take i⟩) (fun _ _=>some w) (by omega) ?_ (v:=⟨[]⟩) (by simp);intro L i v a hi g;rcases AV i w.Am.length with h|h
 .rw[step L i h v (by rw[a];simp;omega),Bg h (by omega)]
  grind[List.take_add_one]
 .obtain rfl:i=w.Am.length:=by omega
  rw[stop,a,KK]
theorem Tg{w:Aq}(a:Cz w):fR w=some w:=by
 have hlim:lim=268435456:=rfl;have c:=a.1;have e:=a.2
 grind[fR,ya,KY,zh,BJ,BH,AB,B6,zg,BT,AR]
theorem Tf{w:Aq}(a:Cz w):fb w=some w:=by
 have hlim:lim=268435456:=rfl;have c:=a.1;have e:=a.2
 grind[fb,ya,KY,zp,BJ,BH,AB,B6,zn,BT,AR]
theorem AJ7{c:Ae}(a:EE c):AG7 c=some c:=by
 unfold AG7;rw[AXz a.1,AB,Tg a.2,AB]
theorem AJ6{c:Ae}(a:EE c):AG8 c=some c:=by
 unfold AG8 WV;have:=a.1;rw[B6 (by unfold lim;omega),AB,Tf a.2,AB]
theorem Vz{l:List Int}(a:l.length<=1048576):Kk l=some l:=by
 unfold Kk;rw[B6 (by unfold lim;omega)]
theorem yZ{F:(Int×AE->AA AE)->Int×AE->AA AE}{h:AE}(e:Bk h)
 (step:∀L i (hi:i<h.AI.length) (v:AE),v.AI.length=i->F L ((i:Int),v)=L (w64 ((i:Int)+1),⟨v.AS,v.Now,v.Av,v.AG,v.AI++[h.AI[i]],v.BA,v.A4⟩)) (stop:∀L v,F L ((h.AI.length:Int),v)=some v):BB F big (0,⟨h.AS,h.Now,h.Av,h.AG,[],h.BA,h.A4⟩)=some h:=by
 have g:=e.EL;refine C9 (n:=h.AI.length) (fun i (v:AE)=>((i:Int),v)) (fun i v=>v=⟨h.AS,h.Now,h.Av,h.AG,h.AI.take i,h.BA,h.A4⟩) (fun _ _=>some h) (by omega) ?_ (v:=⟨h.AS,h.Now,h.Av,h.AG,[],h.BA,h.A4⟩) (by simp);intro L i v c hi j;rcases AV i h.AI.length with a|a
 .rw[step L i a v (by rw[c];simp;omega),Bg a (by omega)]
  grind[List.take_add_one]
 .obtain rfl:i=h.AI.length:=by omega
  rw[stop,c,KK]
theorem Hl{h:AE}(a:Bk h):Nr h=some h:=by
 have hlim:lim=268435456:=rfl;have c:=a.Dj;have p1:=a.CJ;have p2:=a.todo;have p3:=a.GV;have p4:=a.EL;have e:0+h.AG.length<=lim:=by omega
 have g:0+h.BA.length<=lim:=by omega
 have j:0+h.A4.length<=lim:=by omega
 unfold Nr;simp only[qQ c,AB,B6 e,B6 g,B6 j,AGM,B8,NP,I3,DB,CV,zi,MD,zj,fS,C1,oN,Pp,Yk,NT,NU,oQ,oO,fT,oS,Yl,Yn,Ym,Yo,oU,oT,oR,IU,oX,Yp,Yr,Yq,Ys,oZ,oY,oW,Tq,Yt,Yu,ot,oh,og,o7,Yv,o6,oz,pA,o9,o8,ou,oe,oV];refine yZ a ?_ ?_
 .intro L i hi v q;unfold Yw;dsimp only;rw[B7 hi,BJ,BH hi,AB,AJ7 (a.Dq _ (As hi)),AB,B6 (by rw[Ka];omega)]
 grind[Yw,pB,BT,AR]
theorem Gy{h:AE}(a:Bk h):Ns h=some h:=by
 have hlim:lim=268435456:=rfl;have c:=a.Dj;have p1:=a.CJ;have p2:=a.todo;have p3:=a.GV;have p4:=a.EL;have e:0+h.AG.length<=lim:=by omega
 unfold Ns;simp only[AKh c,AB,B6 e,Vz p2,Vz p3,Cm,JW,JX,JY,JZ,I3,Ja,Jb,NP,Kz,PR,Ox,Rb,Vj];refine yZ a ?_ ?_
 .intro L i hi v g;unfold fc;dsimp only;rw[B7 hi,BJ,BH hi,AB,AJ6 (a.Dq _ (As hi)),AB,B6 (by rw[Ka];omega)]
 grind[fc,zq,BT,AR]
theorem HG{e:Af}(a:B5 e):aQ e=some e:=by
 have hlim:lim=268435456:=rfl;have:=a.laid;have g:0+e.Laid.length<=lim:=by omega
 unfold aQ;simp only[Hl a.EB,AB,B6 g,Cm,JW,JX,JY,JZ,I3,Ja,Jb,NP,Kz,PR,Ox,Rb,Vj,B8]
theorem dV{e:Af}(a:B5 e):zr e=some e:=by
 have hlim:lim=268435456:=rfl;have:=a.laid;unfold zr;rw[Gy a.EB,AB,B6 (by omega)]
def FK(a:B0)(s:List UInt8):B0×Bool:=if Gb a=true/\(a.Data.length:Int)+s.length<=20000 then (⟨a.Data++s,a.Safe⟩,true) else (a,false)
theorem Fs{a:B0}:Gb a=true↔(a.Data.length:Int)<=20000/\0<=a.Safe/\a.Safe<=a.Data.length:=by
 grind[Gb,CP]
theorem Oo{a:B0}{s:List UInt8}(c:s.length<=4000):fV a s=some (FK a s):=by
 grind[OI,fV,fW,FK,GQ,AB,BP,AR,Gb,A6,B6,BL]
theorem ABw{a:B0}{s:List UInt8}(c:a.Data.length<=1048576)(e:s.length<=4000):AHB a s=some (FK a s):=by
 grind[OI,AHB,fj,FK,B6,G5,AB,AR,BJ,Fs,BT]
def NF(e:Af)(q:B1):Af×Int:=
 if Ev e=false then (e,21) else if KZ q=false then (e,22) else if e.Seq=1000000 then (e,23) else if e.Laid.length=8\/(FK e.A9.Log (frB (w64 (e.Seq+1)) (HK q))).2=false then (e,24)
 else (⟨e.Bb,⟨(FK e.A9.Log (frB (w64 (e.Seq+1)) (HK q))).1,e.A9.FH,e.A9.Odd⟩,w64 (e.Seq+1),e.Laid++[q]⟩,0)
theorem YE{e:Af}(a:B5 e)(q:B1):fY e q=some (NF e q):=by
 have hlim:lim=268435456:=rfl;have g:=a.laid;have c:=AW1 (w64 (e.Seq+1)) (HK q);unfold fY NF;simp only[HG a,GR a,ma,AC3,Oo (Nat.le_trans c (by omega):(frB (w64 (e.Seq+1)) (HK q)).length<=4000),AB,Cm,JW,JX,JY,JZ,I3,Ja,Jb,NP,Kz,PR,Ox,Rb,Vj,BP,AR];unfold fZ;rw[BP,BJ,B6 (by rw[Ka];omega)];cases Ev e with
 |false=>rfl|true=>
  cases KZ q with
  |false=>rfl|true=>
   simp only[BJ,Bn,beq_iff_eq]
   grind
theorem J9{e:Af}(h:Ev e=true):DE e.Bb=true/\II e.A9=true/\e.Laid.length<=8/\((e.Laid.length:Int)<=e.Seq/\e.Seq<=1000000)/\e.Laid.all KZ=true:=by
 grind[Ev,CP]
theorem aC{a:B0}{s:List UInt8}(c:a.Data.length<=1048576):(FK a s).1.Data.length<=1048576:=by
 grind[FK]
theorem ky{e:Af}(a:B5 e)(q:B1):B5 (NF e q).1:=by
 unfold NF;split
 .exact a
 .rename_i c;rw[Bool.not_eq_false]at c;have g:=J9 c;split
  .exact a
  .split
   .exact a
   .split
    .exact a
    .exact⟨a.EB,aC a.log,a.even,a.odd,by dsimp only;rw[AK,List.length_singleton];omega⟩
end Lv.P
