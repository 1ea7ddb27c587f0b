/- Plain laws about what the program computes. -/
import Derived.Test.YtnjoipcemhflkaaGreatPDb
noncomputable section
set_option linter.unusedVariables false
set_option linter.unusedSimpArgs false
set_option linter.unusedSectionVars false
open Int renaming toNat_natCast->Ac
open List renaming append_assoc->CG,append_inj->KV,drop_eq_nil_of_le->BA,drop_left'->Cl,drop_zero->Cs,getElem_mem->Ah,length_append->AK,length_cons->AI,length_drop->Bd,length_nil->AP,length_take->BL,nil_append->CB,take_left'->C0,take_length->DP,take_of_length_le->BT,take_prefix->EN
open Nat renaming lt_or_ge->AZ
open Option.some renaming injEq->AD
open Prod.mk renaming injEq->A1
namespace Lv.P
open Go (IntKind BinOp UnOp)
theorem Sn{w pre l:List UInt8}{n:Nat}{i:Int}(a:w=pre++(FQ n++l))(hi:i=pre.length)(c:n<=2147483647):gN w i=((n:Int),((pre.length+(FQ n).length:Nat):Int),true):=by
 subst a;subst hi;have:=IG n;unfold gN
 grind[List.length_append,Int.toNat_natCast,List.drop_left,yu,KP,vW]
theorem vV{w:List UInt8}{i n j:Int}(h:gN w i=(n,j,true)):∃(m:Nat) (l:List UInt8),0<=i/\i<w.length/\w.drop i.toNat=FQ m++l/\n=(m:Int)/\j=i+(FQ m).length/\m<=2147483647:=by
 unfold gN at h;split at h
 .rename_i hi;cases a:rdN 5 0 0 (w.drop i.toNat) with
  |none=>rw[a]at h;simp[vW]at h|some x=>
   grind[vW,Prod.mk.injEq,dn]
 .simp at h
theorem vR{q:Int}{b:List UInt8}(h:Qq q b):frB q b=FQ (frT q b).length++(four ((KJ (pN q++b):Nat):Int)++(FQ q.toNat++b))/\frT q b=four ((KJ (pN q++b):Nat):Int)++(FQ q.toNat++b):=by
 have hT:=Oa h;have e:pN q=FQ q.toNat:=by unfold pN;rw[AW (by have:=h.1;omega)]
 have a:frT q b=four ((KJ (pN q++b):Nat):Int)++(FQ q.toNat++b):=by unfold frT;rw[e]
 refine⟨?_,a⟩;unfold frB;rw[AW h,<-a];have c:pN ((frT q b).length:Int)=FQ (frT q b).length:=by unfold pN;rw[AW (by omega),Ac]
 rw[c]
theorem ALv{q q':Int}{b a d:List UInt8}(h:Qq q b)(j:Qq q' a)(X:frB q b <+: d)(E:frB q' a <+: d):q=q'/\b=a:=by
 obtain⟨r,rfl⟩:=X;obtain⟨r',y⟩:=E;obtain⟨L,H⟩:=vR h;obtain⟨B,c⟩:=vR j;have hT:=Oa h;have hT':=Oa j;rw[L,B,<-H,<-c,CG,CG]at y;have O:=Sn (w:=FQ (frT q b).length++(frT q b++r)) (pre:=[]) (i:=0) rfl rfl (by omega:(frT q b).length<=2147483647);have I:=Sn (w:=FQ (frT q b).length++(frT q b++r)) (pre:=[]) (i:=0) (l:=frT q' a++r') (by rw[<-y];rfl) rfl (by omega:(frT q' a).length<=2147483647);rw[O]at I;have S:(frT q b).length=(frT q' a).length:=by have:=congrArg Prod.fst I;simp at this;omega
 rw[<-S]at y;have G:=List.append_cancel_left y;have e:=(KV G (by omega)).1;rw[H,c]at e;have g:=(KV e (by rw[HB,HB])).2;have Q:=Sn (w:=FQ q.toNat++b) (pre:=[]) (i:=0) rfl rfl (by have:=h.1;omega:q.toNat<=2147483647);have J:=Sn (w:=FQ q.toNat++b) (pre:=[]) (i:=0) (l:=a) (by rw[<-g];rfl) rfl (by have:=j.1;omega:q'.toNat<=2147483647);rw[Q]at J;have Y:q.toNat=q'.toNat:=by have:=congrArg Prod.fst J;simp at this;omega
 rw[<-Y]at g;have:=h.1;have:=j.1
 grind[List.append_cancel_left]
def vT(d:List UInt8)(i:Int):Br×Bool:=
 open Classical in if h:∃x:Int×List UInt8,Qq x.1 x.2/\frB x.1 x.2 <+: d then (⟨h.choose.1,h.choose.2,i+(frB h.choose.1 h.choose.2).length⟩,true) else (⟨0,[],0⟩,false)
theorem ALw{q:Int}{b d:List UInt8}{i:Int}(h:Qq q b)(a:frB q b <+: d):vT d i=(⟨q,b,i+(frB q b).length⟩,true):=by
 unfold vT;have c:∃x:Int×List UInt8,Qq x.1 x.2/\frB x.1 x.2 <+: d:=⟨(q,b),h,a⟩
 grind[ALv]
theorem T5{d:List UInt8}{i:Int}(h:∀q b,Qq q b->¬frB q b <+: d):vT d i=(⟨0,[],0⟩,false):=by
 grind[vT]
theorem Ny(d:List UInt8)(i:Int):(∃q b,Qq q b/\frB q b <+: d/\vT d i=(⟨q,b,i+(frB q b).length⟩,true))\/((∀q b,Qq q b->¬frB q b <+: d)/\vT d i=(⟨0,[],0⟩,false)):=by
 grind[Qq,frB,ALw,T5]
def J5(s:List UInt8)(i:Int):Br×Bool:=if 0<=i/\i<=s.length then vT (s.drop i.toNat) i else (⟨0,[],0⟩,false)
@[simp] theorem S9(a b:Int):ABE a b=some (if a<b then a else b):=by
 unfold ABE;rw[BQ];split<;>rfl
theorem AEx{p d:List UInt8}{n:Nat}(h:p <+: d)(a:p.length<=n):p <+: d.take n:=by
 grind[List.take_append,List.take_of_length_le]
theorem V9(b:List UInt8):(b==[])=decide (b=[]):=by cases b<;>rfl
theorem zE{s:List UInt8}(hs:s.length<2 ^ 62)(i:Int):ABF s i=some (J5 s i):=by
 unfold ABF J5;rw[de,AB,BK,BQ];by_cases hi:0<=i/\i<=(s.length:Int)
 rotate_left
 .rw[AR hi,AR hi]
 rw[AW hi,AW hi,S9,AB,A2 (by omega) (by omega)];generalize hx:(if (s.length:Int)<i+80 then (s.length:Int) else i+80)=x;have O:i<=x/\x<=(s.length:Int):=by split at hx<;>omega
 rw[B8 ⟨hi.1,O⟩];unfold Ab6 AdK AdL;have hW:(s.drop i.toNat).take (x.toNat-i.toNat)=(s.drop i.toNat).take 80:=by
  split at hx
  .rw[BT (by rw[Bd];omega),BT (by rw[Bd];omega)]
  .congr 1;omega
 rw[hW];generalize hd:s.drop i.toNat=d at *;have hdl:d.length=s.length-i.toNat:=by rw[<-hd,Bd]
 generalize J:d.take 80=w;have hwl:w.length<=80/\w.length<=d.length:=by rw[<-J,BL];omega
 rw[On (by omega) _ (by omega),AB];have L:w <+: d:=by rw[<-J];exact EN _ _
 rcases Ny d i with ⟨q,b,c,hp,G⟩|⟨I,G⟩
 ·-- there is a frame
  have hl:=Xe c;obtain⟨r,j⟩:=AEx (n:=80) hp (by omega);rw[J]at j;obtain⟨y,B⟩:=vR c;have hT:=Oa c;have hq:=c.1;have Q:gN w 0=(((frT q b).length:Int),(((FQ (frT q b).length).length:Nat):Int),true):=by
   rw[Sn (w:=w) (i:=0) (pre:=[]) (n:=(frT q b).length) (l:=frT q b++r) (by rw[<-j,y,<-B];simp) (by simp) (by omega)];simp
  have hm:=KP (n:=(frT q b).length) (by omega);have hfl:(frB q b).length=(FQ (frT q b).length).length+(frT q b).length:=by rw[y,<-B,AK]
  have hwl2:w.length=(frB q b).length+r.length:=by rw[<-j,AK]
  generalize hM:(FQ (frT q b).length).length=M at *;generalize hN:(frT q b).length=N at *;have hN2:N=4+(FQ q.toNat).length+b.length:=by rw[<-hN,B];simp[HB];omega
  rw[Q];dsimp only;rw[BK,BP,A2 (n:=(w.length:Int)-M) (by omega) (by omega),BQ,AR (by omega),decide_eq_false (by omega),AV,Bb,A2 (n:=(M:Int)+4) (by omega) (by omega)];have S:gN w ((M:Int)+4)=(q,((M+4+(FQ q.toNat).length:Nat):Int),true):=by
   rw[Sn (pre:=FQ N++four ((KJ (pN q++b):Nat):Int)) (n:=q.toNat) (l:=b++r) (by rw[<-j,y];simp) (by simp[HB,hM]) (by omega)];simp[HB,hM];omega
  rw[On (by omega) _ (by omega),AB,S];dsimp only;rw[BK,BP,A2 (n:=(M:Int)+N) (by omega) (by omega),decide_eq_false (by omega),AV,Bb,B8 (by omega),B8 (by omega)];have hb:((w.drop ((M+4+(FQ q.toNat).length:Nat):Int).toNat).take (((M:Int)+N).toNat-((M+4+(FQ q.toNat).length:Nat):Int).toNat))=b:=by
   have e3:w=(FQ N++four ((KJ (pN q++b):Nat):Int)++FQ q.toNat)++(b++r):=by rw[<-j,y];simp
   rw[Ac,e3,Cl (by simp[HB,hM];omega),C0 (by omega)]
  have hf:((w.drop 0).take (((M:Int)+N).toNat-0))=frB q b:=by
   rw[Cs,<-j,C0 (by omega)]
  rw[hb,hf,Kz,AB];have g:(frB q b != frB q b)=false:=by simp
  have E:(b==[])=false:=by rw[V9];have:=c.2;cases b<;>simp at this ⊢
  rw[g,Bb,AV,E,Bb,G];have hfw:(((FQ N).length:Nat):Int)=M:=by omega
  simp only[AD,A1,and_true,Br.mk.injEq,true_and];rw[A2 (n:=i+M) (by omega) (by omega),A2 (by omega) (by omega)];omega
 ·-- there is none
  rw[G];rcases hg:gN w 0 with ⟨n,m,ok⟩;cases ok with
  |false=>dsimp only;simp only[BK,Bb,BP,AV]|true=>
   obtain⟨n',l,h1,h2,h3,h4,h5,h6⟩:=vV hg;have hn5:=KP h6;have hwlen:w.length=(FQ n').length+l.length:=by have:=congrArg List.length h3;simpa using this
   dsimp only;rw[BK,BP,A2 (n:=(w.length:Int)-m) (by omega) (by omega),BQ];by_cases X:n>(w.length:Int)-m
   .rw[AW X];simp only[BP,AV]
   rw[AR X,AV,BQ];by_cases Y:n<5
   .rw[AW Y]
   rw[AR Y,A2 (n:=m+4) (by omega) (by omega),On (by omega) _ (by omega),AB];rcases H:gN w (m+4) with ⟨q,k,ok⟩;cases ok with
   |false=>dsimp only;simp only[BK,Bb,BP,AV]|true=>
    obtain⟨q',l',Q,S,g3,g4,g5,g6⟩:=vV H;dsimp only;rw[BK,BP,A2 (n:=m+n) (by omega) (by omega),AV,BQ];by_cases Z:k>m+n
    .rw[AW Z]
    rw[AR Z,B8 (by omega),B8 (by omega),Kz,AB,uJ,Cs,Nat.sub_zero];generalize hbb:List.take ((m+n).toNat-k.toNat) (List.drop k.toNat w)=bb;by_cases e:frB q bb=List.take (m+n).toNat w
    .rw[AW e];exfalso;have g:frB q bb≠[]:=by
      rw[e];intro h;have:=congrArg List.length h;rw[BL]at this;simp only[AP]at this;omega
     exact I q bb (ARD g) (by rw[e];exact(EN _ _).trans L)
    .rw[AR e];simp only[BP,AV]
theorem xk{s:List UInt8}(hs:s.length<2 ^ 62)(i:Int)(hi':i<2 ^ 62):gH s i=some (J5 s i):=by
 unfold gH J5 Mv;rw[QT,AB,AB,A2 (n:=(s.length:Int)-1) (by omega) (by omega),BK,BQ];by_cases hi:0<=i/\i<=(s.length:Int)
 rotate_left
 .rw[AR (by omega),AR hi]
 rw[AW hi];by_cases hi2:i=(s.length:Int)
 .rw[AR (by omega)];congr 1;rw[T5];intro q b E Y;have J:=Xe E;have:=Y.length_le;rw[Bd]at this;omega
 rw[AW (by omega)];simp only[Bool.false_eq_true,if_false];rw[A2 (n:=i+5) (by omega) (by omega)];generalize hx:(if i+5<(s.length:Int) then i+5 else (s.length:Int))=x;have Q:i<=x/\x<=(s.length:Int):=by split at hx<;>omega
 rw[B8 ⟨hi.1,Q⟩];unfold Ab7 Wf;have hW:(s.drop i.toNat).take (x.toNat-i.toNat)=(s.drop i.toNat).take 5:=by
  split at hx
  .congr 1;omega
  .rw[BT (by rw[Bd];omega),BT (by rw[Bd];omega)]
 rw[hW];generalize hd:s.drop i.toNat=d at *;have hdl:d.length=s.length-i.toNat:=by rw[<-hd,Bd]
 generalize hw:d.take 5=w;have hwl:w.length<=5/\w.length<=d.length:=by rw[<-hw,BL];omega
 rw[Oe (by omega),AB];have h:∀m:Int,0<=m->i+m<=s.length->s.drop (i+m).toNat=d.drop m.toNat:=by
  intro m h0 E;rw[<-hd,List.drop_drop];congr 1;omega
 rcases Ny d i with ⟨q,b,c,hp,H⟩|⟨O,H⟩
 ·-- there is a frame
  have J:=Xe c;obtain⟨r,y⟩:=hp;obtain⟨B,e⟩:=vR c;have hT:=Oa c;have hq:=c.1;have hm:=KP (n:=(frT q b).length) (by omega);have S:gN w 0=(((frT q b).length:Int),(((FQ (frT q b).length).length:Nat):Int),true):=by
   rw[Sn (w:=w) (i:=0) (pre:=[]) (n:=(frT q b).length) (l:=(frT q b++r).take (5-(FQ (frT q b).length).length)) (by
    rw[<-hw,<-y,B,<-e,CG,List.take_append,BT hm];rfl) (by simp) (by omega)];simp
  have hfl:(frB q b).length=(FQ (frT q b).length).length+(frT q b).length:=by rw[B,<-e,AK]
  have hdl2:d.length=(frB q b).length+r.length:=by rw[<-y,AK]
  generalize hM:(FQ (frT q b).length).length=M at *;generalize hN:(frT q b).length=N at *;have hN2:N=4+(FQ q.toNat).length+b.length:=by rw[<-hN,e];simp[HB];omega
  rw[S];dsimp only;rw[BK,BP,BQ,AR (by omega),A2 (n:=(s.length:Int)-i) (by omega) (by omega),A2 (n:=(s.length:Int)-i-M) (by omega) (by omega),decide_eq_false (by omega),AV,Bb];rw[A2 (n:=i+M) (by omega) (by omega),A2 (n:=i+M+N) (by omega) (by omega),B8 (by omega),h _ (by omega) (by omega),Ac];have hT2:(d.drop M).take ((i+M+N).toNat-(i+M).toNat)=frT q b:=by
   rw[<-y,B,<-e,CG,Cl hM,C0 (by omega)]
  rw[hT2];have X:gN (frT q b) 4=(q,((4+(FQ q.toNat).length:Nat):Int),true):=by
   rw[Sn (pre:=four ((KJ (pN q++b):Nat):Int)) (n:=q.toNat) (l:=b) e (by simp[HB]) (by omega)];simp[HB];omega
  rw[Oe (by omega),AB,X];dsimp only;rw[BK,BP,B8 (by omega)];have hb:((frT q b).drop ((4+(FQ q.toNat).length:Nat):Int).toNat).take ((frT q b).length-((4+(FQ q.toNat).length:Nat):Int).toNat)=b:=by
   rw[Ac,hN,e,<-CG,Cl (by simp[HB]),BT (by omega)]
  have hf:((d).take ((i+M+N).toNat-i.toNat))=frB q b:=by
   rw[<-y,C0 (by omega)]
  rw[hb,Q0,AB];have L:(frB q b==[])=false:=by rw[V9];cases hh:frB q b with|nil=>rw[hh]at J;simp at J|cons=>rfl
  rw[L,Bb,B8 (by omega),hf,AV];have j:(frB q b != frB q b)=false:=by simp
  rw[j,Bb,H];simp only[AD,A1,and_true,Br.mk.injEq,true_and];omega
 ·-- there is none
  rw[H];rcases hg:gN w 0 with ⟨n,m,ok⟩;cases ok with
  |false=>dsimp only;simp only[BK,Bb,BP,AV]|true=>
   obtain⟨n',l,E,Y,h3,h4,h5,h6⟩:=vV hg;have hn5:=KP h6;have hwlen:w.length=(FQ n').length+l.length:=by have:=congrArg List.length h3;simpa using this
   dsimp only;rw[BK,BP,BQ];by_cases Z:n<6
   .rw[AW Z];simp only[BP,AV]
   rw[AR Z,A2 (n:=(s.length:Int)-i) (by omega) (by omega),A2 (n:=(s.length:Int)-i-m) (by omega) (by omega),AV,BQ];by_cases h8:n>(s.length:Int)-i-m
   .rw[AW h8]
   rw[AR h8,A2 (n:=i+m) (by omega) (by omega),A2 (n:=i+m+n) (by omega) (by omega),B8 (by omega),h _ (by omega) (by omega)];generalize ht:(d.drop m.toNat).take ((i+m+n).toNat-(i+m).toNat)=t;have htl:t.length<=s.length:=by rw[<-ht,BL,Bd];omega
   rw[Oe (by omega),AB];rcases I:gN t 4 with ⟨q,k,ok⟩;cases ok with
   |false=>dsimp only;simp only[BK,Bb,BP,AV]|true=>
    obtain⟨q',l',S,X,g3,g4,g5,g6⟩:=vV I;have hkl:k<=t.length:=by
     have:=congrArg List.length g3;rw[Bd,AK]at this;omega
    dsimp only;rw[BK,BP,B8 (by omega),Q0,AB];generalize hbb:List.take (t.length-k.toNat) (List.drop k.toNat t)=bb;rw[V9,BQ];by_cases G:frB q bb=[]
    .rw[AW G];simp only[BP,AV]
    rw[AR G,B8 (by omega),AV,uJ];by_cases g:frB q bb=List.take ((i+m+n).toNat-i.toNat) d
    .exfalso;exact O q bb (ARD G) (by rw[g];exact EN _ _)
    .rw[AR g]
theorem T4{s:List UInt8}{i:Int}(h:(J5 s i).2=true):0<=i/\i+7<=(J5 s i).1.Next/\(J5 s i).1.Next<=s.length:=by
 unfold J5 at h ⊢;split at h
 .rename_i hi;rw[AW hi];rcases Ny (s.drop i.toNat) i with ⟨q,b,c,j,a⟩|⟨g,a⟩
  .rw[a];have:=Xe c;have e:=j.length_le;rw[Bd]at e;dsimp only;omega
  .rw[a]at h;simp at h
 .simp at h
def frs:Nat->List UInt8->Int->List Br|0,_,_=>[]|f+1,s,i=>if (J5 s i).2=true then (J5 s i).1::frs f s (J5 s i).1.Next else []
def Dx(s:List UInt8):List Br:=frs (s.length+1) s 0
theorem vU{s:List UInt8}(q:s.length<=1048576){G:Int->AA (Br×Bool)}(hG:∀i:Int,0<=i->i<=s.length->G i=some (J5 s i)){F:(List Br×Int->AA (List Br))->List Br×Int->AA (List Br)}
 (hF:∀L acc i,F L (acc,i)=bd (G i) fun x=>br (!x.2) (some acc) (gd (acc.length+[x.1].length<=lim) (L (acc++[x.1],x.1.Next)))) :
 ∀(f n:Nat) (acc:List Br) (i:Int),0<=i->i<=s.length->s.length<f+i->f<=n->(acc.length:Int)<=i->BD F n (acc,i)=some (acc++frs f s i)
 |0,n,acc,i,a,c,e,g,h=>by omega|f+1,0,acc,i,a,c,e,g,h=>by omega|f+1,n+1,acc,i,a,c,e,g,h=>by
  rw[EP,hF,hG i a c,AB,BK];unfold frs;cases y:(J5 s i).2 with
  |false=>simp|true=>
   have j:=T4 y;rw[BP,B8 (by simp only[AI,AP];unfold lim;omega),AW rfl];rw[vU q hG hF f n _ _ (by omega) j.2.2 (by omega) (by omega) (by rw[AK,AI,AP];omega)];simp
theorem TX{s:List UInt8}(a:s.length<=1048576):gF s=some (Dx s):=by
 unfold gF Dx;have:=vU a (G:=ABF s) (F:=AdM s) (fun i _ _=>zE (by omega) i) (fun L acc i=>by unfold AdM;rfl) (s.length+1) big [] 0 (by omega) (by omega) (by omega) (by have:=Qe;omega) (by simp);rw[this];simp
theorem Od{s:List UInt8}(a:s.length<=1048576):ABH s=some (Dx s):=by
 unfold ABH Dx;have:=vU a (G:=gH s) (F:=gJ s) (fun i _ _=>xk (by omega) i (by omega)) (fun L acc i=>by unfold gJ;rfl) (s.length+1) big [] 0 (by omega) (by omega) (by omega) (by have:=Qe;omega) (by simp);rw[this];simp
theorem ALx:∀(f:Nat) (s:List UInt8) (i:Int),0<=i->i<=s.length->((frs f s i).length:Int)<=s.length-i
 |0,s,i,a,h=>by simp[frs];omega|f+1,s,i,a,h=>by
  unfold frs;split
  .rename_i e;have c:=T4 e;have:=ALx f s (J5 s i).1.Next (by omega) c.2.2;rw[AI];omega
  .simp;omega
theorem J6(s:List UInt8):(Dx s).length<=s.length:=by
 have:=ALx (s.length+1) s 0 (by omega) (by omega);unfold Dx;omega
def AE5(p:Int):Int->List Br->Int|r,[]=>r|r,f::l=>if f.Seq<=p then AE5 p f.Next l else r
theorem YY{x:BZ}(c:x.Log.Data.length<=1048576)(p:Int):AJo x p=some (AE5 p 0 (Dx x.Log.Data)):=by
 unfold AJo;rw[TX c,AB];have g:=J6 x.Log.Data;generalize Dx x.Log.Data=l at *;refine C3 (n:=l.length) (fun i (v:Int)=>(v,(i:Int))) (fun _ _=>True) (fun i v=>some (AE5 p v (l.drop i))) (by omega) ?_ trivial;intro L i v _ hi e;unfold Afh AdN Afg;dsimp only;simp only[dec_lt,AV];rcases AZ i l.length with h|h
 .rw[decide_eq_true h,BP,BG h,AB,AB,AB,AB,BQ,Bn h (by omega),Dg h];unfold AE5;by_cases a:l[i].Seq<=p
  .rw[AW a,AW a,e _ trivial h]
  .rw[AR a,AR a]
 .rw[decide_eq_false (by omega),Bb,Bb,BA h];rfl
theorem xn{x:BZ}(c:x.Log.Data.length<=1048576)(p:Int):AbW x p=some (AE5 p 0 (Dx x.Log.Data)):=by
 unfold AbW;rw[Od c,AB];have g:=J6 x.Log.Data;generalize Dx x.Log.Data=l at *;refine C3 (n:=l.length) (fun i (v:Int)=>(v,(i:Int))) (fun _ _=>True) (fun i v=>some (AE5 p v (l.drop i))) (by omega) ?_ trivial;intro L i v _ hi e;unfold Aba yi;dsimp only;simp only[dec_lt,AV];rcases AZ i l.length with h|h
 .rw[decide_eq_true h,BP,BG h,AB,AB,BQ,Bn h (by omega),Dg h];unfold AE5;by_cases a:l[i].Seq<=p
  .rw[AR (by omega),AW a,e _ trivial h]
  .rw[AW (by omega),AR a]
 .rw[decide_eq_false (by omega),Bb,BA h];rfl
theorem AWb(q:Int):frB q []=[]:=by unfold frB;rw[AR (fun h=>by have:=h.2.1;simp at this)]
theorem AEs(n:Int)(q:B3):gO n q=some (frB n (Gu q)):=by
 unfold gO;rw[Uy,AB,V9,BQ];split
 .rename_i h;rw[h,AWb]
 .rw[Kz,AB]
theorem vS(q:Int)(b:List UInt8):(frB q b).length<=74:=by
 by_cases h:Qq q b
 .exact(Xe h).2
 .unfold frB;rw[AR h];simp
theorem AZT{l:List Au}(a:l.length<=1048576):ux l=some l:=Tb (by unfold lim;omega)
theorem AAY{F:(Int×Aw->AA Aw)->Int×Aw->AA Aw}{w:Aw}(c:DV w)
 (step:∀L i (h:i<w.Ar.length) (v:Aw),v.Ar.length=i->F L ((i:Int),v)=L (w64 ((i:Int)+1),⟨v.Ar++[w.Ar[i]]⟩)) (stop:∀L v,F L ((w.Ar.length:Int),v)=some v):BD F big (0,⟨[]⟩)=some w:=by
 have e:=c.1;refine C3 (n:=w.Ar.length) (fun i (v:Aw)=>((i:Int),v)) (fun i v=>v=⟨w.Ar.take i⟩) (fun _ _=>some w) (by omega) ?_ (v:=⟨[]⟩) (by simp);intro L i v a hi g;rcases AZ i w.Ar.length with h|h
 .rw[step L i h v (by rw[a];simp;omega),Bn h (by omega)]
  grind[List.take_add_one]
 .obtain rfl:i=w.Ar.length:=by omega
  rw[stop,a,DP]
theorem Tp{w:Aw}(a:DV w):AJu w=some w:=by
 have hlim:lim=268435456:=rfl;have c:=a.1;have e:=a.2
 grind[AJu,AAY,Lm,Afo,BP,BG,AB,B8,Afn,Bb,AV]
theorem To{w:Aw}(a:DV w):ABa w=some w:=by
 have hlim:lim=268435456:=rfl;have c:=a.1;have e:=a.2
 grind[ABa,AAY,Lm,Afs,BP,BG,AB,B8,Afr,Bb,AV]
theorem ANE{c:Ae}(a:FD c):AJv c=some c:=by
 unfold AJv;rw[AZT a.1,AB,Tp a.2,AB]
theorem AND{c:Ae}(a:FD c):gT c=some c:=by
 unfold gT Uc;have:=a.1;rw[B8 (by unfold lim;omega),AB,To a.2,AB]
theorem Tn{l:List Int}(a:l.length<=1048576):AJs l=some l:=by
 unfold AJs;rw[B8 (by unfold lim;omega)]
theorem AAX{F:(Int×AE->AA AE)->Int×AE->AA AE}{h:AE}(e:Bt h)
 (step:∀L i (hi:i<h.AH.length) (v:AE),v.AH.length=i->F L ((i:Int),v)=L (w64 ((i:Int)+1),⟨v.AQ,v.Now,v.A0,v.AG,v.AH++[h.AH[i]],v.BB,v.A9⟩)) (stop:∀L v,F L ((h.AH.length:Int),v)=some v):BD F big (0,⟨h.AQ,h.Now,h.A0,h.AG,[],h.BB,h.A9⟩)=some h:=by
 have g:=e.Ds;refine C3 (n:=h.AH.length) (fun i (v:AE)=>((i:Int),v)) (fun i v=>v=⟨h.AQ,h.Now,h.A0,h.AG,h.AH.take i,h.BB,h.A9⟩) (fun _ _=>some h) (by omega) ?_ (v:=⟨h.AQ,h.Now,h.A0,h.AG,[],h.BB,h.A9⟩) (by simp);intro L i v c hi j;rcases AZ i h.AH.length with a|a
 .rw[step L i a v (by rw[c];simp;omega),Bn a (by omega)]
  grind[List.take_add_one]
 .obtain rfl:i=h.AH.length:=by omega
  rw[stop,c,DP]
theorem Hm{h:AE}(a:Bt h):ABR h=some h:=by
 have hlim:lim=268435456:=rfl;have c:=a.De;have p1:=a.CM;have p2:=a.todo;have p3:=a.Fk;have p4:=a.Ds;have e:0+h.AG.length<=lim:=by omega
 have g:0+h.BB.length<=lim:=by omega
 have j:0+h.A9.length<=lim:=by omega
 unfold ABR;simp only[sd c,AB,B8 e,B8 g,B8 j,AI9,CB,K4,J4,cr,bf,Afp,AbO,Afq,AdO,cm,Aer,Abg,Ace,AbT,AbU,Aet,Aes,AdP,Aev,Acf,Ach,Acg,Aci,Aex,Aew,Aeu,gR,Ae0,Acj,Acl,Ack,Acm,Ae2,Ae1,Aez,Abx,Acn,Aco,Ae6,Ae5,Ae4,AfA,Acp,Ae9,Ae8,AfD,AfC,AfB,Ae7,Ae3,Aey];refine AAX a ?_ ?_
 .intro L i hi v q;unfold Acq;dsimp only;rw[B9 hi,BP,BG hi,AB,ANE (a.ED _ (Ah hi)),AB,B8 (by rw[NB];omega)]
 grind[Acq,AfE,Bb,AV]
theorem G3{h:AE}(a:Bt h):ABb h=some h:=by
 have hlim:lim=268435456:=rfl;have c:=a.De;have p1:=a.CM;have p2:=a.todo;have p3:=a.Fk;have p4:=a.Ds;have e:0+h.AG.length<=lim:=by omega
 unfold ABb;simp only[sb c,AB,B8 e,Tn p2,Tn p3,Ce,Kg,Kh,Ki,Kj,J4,Kk,Kl,K4,IJ,IY,MU,NK,RY];refine AAX a ?_ ?_
 .intro L i hi v g;unfold AdT;dsimp only;rw[B9 hi,BP,BG hi,AB,AND (a.ED _ (Ah hi)),AB,B8 (by rw[NB];omega)]
 grind[AdT,Aft,Bb,AV]
theorem I3{e:Ap}(a:Cc e):bC e=some e:=by
 have hlim:lim=268435456:=rfl;have:=a.laid;have g:0+e.Laid.length<=lim:=by omega
 unfold bC;simp only[Hm a.EY,AB,B8 g,Ce,Kg,Kh,Ki,Kj,J4,Kk,Kl,K4,IJ,IY,MU,NK,RY,CB]
theorem Nl{e:Ap}(a:Cc e):y2 e=some e:=by
 have hlim:lim=268435456:=rfl;have:=a.laid;unfold y2;rw[G3 a.EY,AB,B8 (by omega)]
def G7(a:Bp)(s:List UInt8):Bp×Bool:=if Fz a=true/\(a.Data.length:Int)+s.length<=20000 then (⟨a.Data++s,a.Safe⟩,true) else (a,false)
theorem IT{a:Bp}:Fz a=true↔(a.Data.length:Int)<=20000/\0<=a.Safe/\a.Safe<=a.Data.length:=by
 grind[Fz,CA]
theorem TU{a:Bp}{s:List UInt8}(c:s.length<=4000):AJy a s=some (G7 a s):=by
 grind[Mn,AJy,AdR,G7,HH,AB,BK,AV,Fz,A2,B8,BQ]
theorem bX{a:Bp}{s:List UInt8}(c:a.Data.length<=1048576)(e:s.length<=4000):Abd a s=some (G7 a s):=by
 grind[Mn,Abd,AbM,G7,B8,GN,AB,AV,BP,IT,Bb]
def K7(e:Ap)(q:B3):Ap×Int:=
 if D7 e=false then (e,21) else if KT q=false then (e,22) else if e.Seq=1000000 then (e,23) else if e.Laid.length=8\/(G7 e.BH.Log (frB (w64 (e.Seq+1)) (Gu q))).2=false then (e,24)
 else (⟨e.BO,⟨(G7 e.BH.Log (frB (w64 (e.Seq+1)) (Gu q))).1,e.BH.DW,e.BH.Odd⟩,w64 (e.Seq+1),e.Laid++[q]⟩,0)
theorem YX{e:Ap}(a:Cc e)(q:B3):Np e q=some (K7 e q):=by
 have hlim:lim=268435456:=rfl;have g:=a.laid;have c:=vS (w64 (e.Seq+1)) (Gu q);unfold Np K7;simp only[I3 a,HQ a,oJ,AEs,TU (Nat.le_trans c (by omega):(frB (w64 (e.Seq+1)) (Gu q)).length<=4000),AB,Ce,Kg,Kh,Ki,Kj,J4,Kk,Kl,K4,IJ,IY,MU,NK,RY,BK,AV];unfold AdS;rw[BK,BP,B8 (by rw[NB];omega)];cases D7 e with
 |false=>rfl|true=>
  cases KT q with
  |false=>rfl|true=>
   simp only[BP,Bi,beq_iff_eq]
   grind
theorem VG{e:Ap}(h:D7 e=true):DD e.BO=true/\II e.BH=true/\e.Laid.length<=8/\((e.Laid.length:Int)<=e.Seq/\e.Seq<=1000000)/\e.Laid.all KT=true:=by
 grind[D7,CA]
theorem ak{a:Bp}{s:List UInt8}(c:a.Data.length<=1048576):(G7 a s).1.Data.length<=1048576:=by
 grind[G7]
theorem Xw{e:Ap}(a:Cc e)(q:B3):Cc (K7 e q).1:=by
 unfold K7;split
 .exact a
 .rename_i c;rw[Bool.not_eq_false]at c;have g:=VG c;split
  .exact a
  .split
   .exact a
   .split
    .exact a
    .exact⟨a.EY,ak a.log,a.even,a.odd,by dsimp only;rw[AK,List.length_singleton];omega⟩
end Lv.P
