/- Plain laws about what the program computes. -/
import Derived.Test.YtcmjfplpdjflnaaGreatPD
noncomputable section
set_option linter.unusedVariables false
set_option linter.unusedSimpArgs false
set_option linter.unusedSectionVars false
open Int renaming toNat_natCast->Aa
open List renaming append_assoc->CA,append_inj->Jl,drop_eq_nil_of_le->A9,drop_left'->Cj,drop_zero->Cp,getElem_mem->Ao,length_append->AP,length_cons->AJ,length_drop->BX,length_nil->AS,length_take->Bb,nil_append->B5,take_left'->Cs,take_length->JT,take_of_length_le->BI,take_prefix->HE
open Nat renaming le_trans->A1,lt_or_ge->Ab
open Option.some renaming injEq->AD
open Prod.mk renaming injEq->A0
namespace Lv.P
open Go (IntKind BinOp UnOp)
theorem RE{w pre l:List UInt8}{n:Nat}{i:Int}(a:w=pre++(Eu n++l))(hi:i=pre.length)(c:n<=2147483647):gN w i=((n:Int),((pre.length+(Eu n).length:Nat):Int),true):=by
 subst a;subst hi;have:=He n;unfold gN
 grind[List.length_append,Int.toNat_natCast,List.drop_left,uO,Jc,rI]
theorem rH{w:List UInt8}{i n j:Int}(h:gN w i=(n,j,true)):∃(m:Nat) (l:List UInt8),0<=i/\i<w.length/\w.drop i.toNat=Eu m++l/\n=(m:Int)/\j=i+(Eu m).length/\m<=2147483647:=by
 unfold gN at h;split at h
 .rename_i hi;cases a:rdN 5 0 0 (w.drop i.toNat) with
  |none=>rw[a]at h;simp[rI]at h|some x=>
   grind[rI,Prod.mk.injEq,aZ]
 .simp at h
theorem rF{q:Int}{b:List UInt8}(h:Pf q b):frB q b=Eu (frT q b).length++(four ((Js (pN q++b):Nat):Int)++(Eu q.toNat++b))/\frT q b=four ((Js (pN q++b):Nat):Int)++(Eu q.toNat++b):=by
 have hT:=NW h;have e:pN q=Eu q.toNat:=by unfold pN;rw[AW (by have:=h.1;omega)]
 have a:frT q b=four ((Js (pN q++b):Nat):Int)++(Eu q.toNat++b):=by unfold frT;rw[e]
 refine⟨?_,a⟩;unfold frB;rw[AW h,<-a];have c:pN ((frT q b).length:Int)=Eu (frT q b).length:=by unfold pN;rw[AW (by omega),Aa]
 rw[c]
theorem AWr{q q':Int}{b a d:List UInt8}(h:Pf q b)(j:Pf q' a)(X:frB q b <+: d)(E:frB q' a <+: d):q=q'/\b=a:=by
 obtain⟨r,rfl⟩:=X;obtain⟨r',y⟩:=E;obtain⟨L,H⟩:=rF h;obtain⟨B,c⟩:=rF j;have hT:=NW h;have hT':=NW j;rw[L,B,<-H,<-c,CA,CA]at y;have O:=RE (w:=Eu (frT q b).length++(frT q b++r)) (pre:=[]) (i:=0) rfl rfl (by omega:(frT q b).length<=2147483647);have I:=RE (w:=Eu (frT q b).length++(frT q b++r)) (pre:=[]) (i:=0) (l:=frT q' a++r') (by rw[<-y];rfl) rfl (by omega:(frT q' a).length<=2147483647);rw[O]at I;have S:(frT q b).length=(frT q' a).length:=by have:=congrArg Prod.fst I;simp at this;omega
 rw[<-S]at y;have G:=List.append_cancel_left y;have e:=(Jl G (by omega)).1;rw[H,c]at e;have g:=(Jl e (by rw[Hk,Hk])).2;have Q:=RE (w:=Eu q.toNat++b) (pre:=[]) (i:=0) rfl rfl (by have:=h.1;omega:q.toNat<=2147483647);have J:=RE (w:=Eu q.toNat++b) (pre:=[]) (i:=0) (l:=a) (by rw[<-g];rfl) rfl (by have:=j.1;omega:q'.toNat<=2147483647);rw[Q]at J;have Y:q.toNat=q'.toNat:=by have:=congrArg Prod.fst J;simp at this;omega
 rw[<-Y]at g;have:=h.1;have:=j.1
 grind[List.append_cancel_left]
def ADd(d:List UInt8)(i:Int):Bu×Bool:=
 open Classical in if h:∃x:Int×List UInt8,Pf x.1 x.2/\frB x.1 x.2 <+: d then (⟨h.choose.1,h.choose.2,i+(frB h.choose.1 h.choose.2).length⟩,true) else (⟨0,[],0⟩,false)
theorem AWt{q:Int}{b d:List UInt8}{i:Int}(h:Pf q b)(a:frB q b <+: d):ADd d i=(⟨q,b,i+(frB q b).length⟩,true):=by
 unfold ADd;have c:∃x:Int×List UInt8,Pf x.1 x.2/\frB x.1 x.2 <+: d:=⟨(q,b),h,a⟩
 grind[AWr]
theorem oQ{d:List UInt8}{i:Int}(h:∀q b,Pf q b->¬frB q b <+: d):ADd d i=(⟨0,[],0⟩,false):=by
 grind[ADd]
theorem Pg(d:List UInt8)(i:Int):(∃q b,Pf q b/\frB q b <+: d/\ADd d i=(⟨q,b,i+(frB q b).length⟩,true))\/((∀q b,Pf q b->¬frB q b <+: d)/\ADd d i=(⟨0,[],0⟩,false)):=by
 grind[Pf,frB,AWt,oQ]
def Tg(s:List UInt8)(i:Int):Bu×Bool:=if 0<=i/\i<=s.length then ADd (s.drop i.toNat) i else (⟨0,[],0⟩,false)
@[simp] theorem WQ(a b:Int):eR a b=some (if a<b then a else b):=by
 unfold eR;rw[BH];split<;>rfl
theorem AVY{p d:List UInt8}{n:Nat}(h:p <+: d)(a:p.length<=n):p <+: d.take n:=by
 grind[List.take_append,List.take_of_length_le]
theorem aD(b:List UInt8):(b==[])=decide (b=[]):=by cases b<;>rfl
theorem uf{s:List UInt8}(hs:s.length<2 ^ 62)(i:Int):zp s i=some (Tg s i):=by
 unfold zp Tg;rw[aQ,AB,BK,BH];by_cases hi:0<=i/\i<=(s.length:Int)
 rotate_left
 .rw[AT hi,AT hi]
 rw[AW hi,AW hi,WQ,AB,Aq (by omega) (by omega)];generalize hx:(if (s.length:Int)<i+80 then (s.length:Int) else i+80)=x;have O:i<=x/\x<=(s.length:Int):=by split at hx<;>omega
 rw[B4 ⟨hi.1,O⟩];unfold VV eS eT;have hW:(s.drop i.toNat).take (x.toNat-i.toNat)=(s.drop i.toNat).take 80:=by
  split at hx
  .rw[BI (by rw[BX];omega),BI (by rw[BX];omega)]
  .congr 1;omega
 rw[hW];generalize hd:s.drop i.toNat=d at *;have hdl:d.length=s.length-i.toNat:=by rw[<-hd,BX]
 generalize J:d.take 80=w;have hwl:w.length<=80/\w.length<=d.length:=by rw[<-J,Bb];omega
 rw[Nh (by omega) _ (by omega),AB];have L:w <+: d:=by rw[<-J];exact HE _ _
 rcases Pg d i with ⟨q,b,c,hp,G⟩|⟨I,G⟩
 ·-- there is a frame
  have hl:=V8 c;obtain⟨r,j⟩:=AVY (n:=80) hp (by omega);rw[J]at j;obtain⟨y,B⟩:=rF c;have hT:=NW c;have hq:=c.1;have Q:gN w 0=(((frT q b).length:Int),(((Eu (frT q b).length).length:Nat):Int),true):=by
   rw[RE (w:=w) (i:=0) (pre:=[]) (n:=(frT q b).length) (l:=frT q b++r) (by rw[<-j,y,<-B];simp) (by simp) (by omega)];simp
  have hm:=Jc (n:=(frT q b).length) (by omega);have hfl:(frB q b).length=(Eu (frT q b).length).length+(frT q b).length:=by rw[y,<-B,AP]
  have hwl2:w.length=(frB q b).length+r.length:=by rw[<-j,AP]
  generalize hM:(Eu (frT q b).length).length=M at *;generalize hN:(frT q b).length=N at *;have hN2:N=4+(Eu q.toNat).length+b.length:=by rw[<-hN,B];simp[Hk];omega
  rw[Q];dsimp only;rw[BK,BL,Aq (n:=(w.length:Int)-M) (by omega) (by omega),BH,AT (by omega),decide_eq_false (by omega),AU,BO,Aq (n:=(M:Int)+4) (by omega) (by omega)];have S:gN w ((M:Int)+4)=(q,((M+4+(Eu q.toNat).length:Nat):Int),true):=by
   rw[RE (pre:=Eu N++four ((Js (pN q++b):Nat):Int)) (n:=q.toNat) (l:=b++r) (by rw[<-j,y];simp) (by simp[Hk,hM]) (by omega)];simp[Hk,hM];omega
  rw[Nh (by omega) _ (by omega),AB,S];dsimp only;rw[BK,BL,Aq (n:=(M:Int)+N) (by omega) (by omega),decide_eq_false (by omega),AU,BO,B4 (by omega),B4 (by omega)];have hb:((w.drop ((M+4+(Eu q.toNat).length:Nat):Int).toNat).take (((M:Int)+N).toNat-((M+4+(Eu q.toNat).length:Nat):Int).toNat))=b:=by
   have e3:w=(Eu N++four ((Js (pN q++b):Nat):Int)++Eu q.toNat)++(b++r):=by rw[<-j,y];simp
   rw[Aa,e3,Cj (by simp[Hk,hM];omega),Cs (by omega)]
  have hf:((w.drop 0).take (((M:Int)+N).toNat-0))=frB q b:=by
   rw[Cp,<-j,Cs (by omega)]
  rw[hb,hf,QA,AB];have g:(frB q b != frB q b)=false:=by simp
  have E:(b==[])=false:=by rw[aD];have:=c.2;cases b<;>simp at this ⊢
  rw[g,BO,AU,E,BO,G];have hfw:(((Eu N).length:Nat):Int)=M:=by omega
  simp only[AD,A0,and_true,Bu.mk.injEq,true_and];rw[Aq (n:=i+M) (by omega) (by omega),Aq (by omega) (by omega)];omega
 ·-- there is none
  rw[G];rcases hg:gN w 0 with ⟨n,m,ok⟩;cases ok with
  |false=>dsimp only;simp only[BK,BO,BL,AU]|true=>
   obtain⟨n',l,h1,h2,h3,h4,h5,h6⟩:=rH hg;have hn5:=Jc h6;have hwlen:w.length=(Eu n').length+l.length:=by have:=congrArg List.length h3;simpa using this
   dsimp only;rw[BK,BL,Aq (n:=(w.length:Int)-m) (by omega) (by omega),BH];by_cases X:n>(w.length:Int)-m
   .rw[AW X];simp only[BL,AU]
   rw[AT X,AU,BH];by_cases Y:n<5
   .rw[AW Y]
   rw[AT Y,Aq (n:=m+4) (by omega) (by omega),Nh (by omega) _ (by omega),AB];rcases H:gN w (m+4) with ⟨q,k,ok⟩;cases ok with
   |false=>dsimp only;simp only[BK,BO,BL,AU]|true=>
    obtain⟨q',l',Q,S,g3,g4,g5,g6⟩:=rH H;dsimp only;rw[BK,BL,Aq (n:=m+n) (by omega) (by omega),AU,BH];by_cases Z:k>m+n
    .rw[AW Z]
    rw[AT Z,B4 (by omega),B4 (by omega),QA,AB,qI,Cp,Nat.sub_zero];generalize hbb:List.take ((m+n).toNat-k.toNat) (List.drop k.toNat w)=bb;by_cases e:frB q bb=List.take (m+n).toNat w
    .rw[AW e];exfalso;have g:frB q bb≠[]:=by
      rw[e];intro h;have:=congrArg List.length h;rw[Bb]at this;simp only[AS]at this;omega
     exact I q bb (API g) (by rw[e];exact(HE _ _).trans L)
    .rw[AT e];simp only[BL,AU]
theorem su{s:List UInt8}(hs:s.length<2 ^ 62)(i:Int)(hi':i<2 ^ 62):zt s i=some (Tg s i):=by
 unfold zt Tg Lq;rw[PI,AB,AB,Aq (n:=(s.length:Int)-1) (by omega) (by omega),BK,BH];by_cases hi:0<=i/\i<=(s.length:Int)
 rotate_left
 .rw[AT (by omega),AT hi]
 rw[AW hi];by_cases hi2:i=(s.length:Int)
 .rw[AT (by omega)];congr 1;rw[oQ];intro q b E Y;have J:=V8 E;have:=Y.length_le;rw[BX]at this;omega
 rw[AW (by omega)];simp only[Bool.false_eq_true,if_false];rw[Aq (n:=i+5) (by omega) (by omega)];generalize hx:(if i+5<(s.length:Int) then i+5 else (s.length:Int))=x;have Q:i<=x/\x<=(s.length:Int):=by split at hx<;>omega
 rw[B4 ⟨hi.1,Q⟩];unfold VW eW;have hW:(s.drop i.toNat).take (x.toNat-i.toNat)=(s.drop i.toNat).take 5:=by
  split at hx
  .congr 1;omega
  .rw[BI (by rw[BX];omega),BI (by rw[BX];omega)]
 rw[hW];generalize hd:s.drop i.toNat=d at *;have hdl:d.length=s.length-i.toNat:=by rw[<-hd,BX]
 generalize hw:d.take 5=w;have hwl:w.length<=5/\w.length<=d.length:=by rw[<-hw,Bb];omega
 rw[NZ (by omega),AB];have h:∀m:Int,0<=m->i+m<=s.length->s.drop (i+m).toNat=d.drop m.toNat:=by
  intro m h0 E;rw[<-hd,List.drop_drop];congr 1;omega
 rcases Pg d i with ⟨q,b,c,hp,H⟩|⟨O,H⟩
 ·-- there is a frame
  have J:=V8 c;obtain⟨r,y⟩:=hp;obtain⟨B,e⟩:=rF c;have hT:=NW c;have hq:=c.1;have hm:=Jc (n:=(frT q b).length) (by omega);have S:gN w 0=(((frT q b).length:Int),(((Eu (frT q b).length).length:Nat):Int),true):=by
   rw[RE (w:=w) (i:=0) (pre:=[]) (n:=(frT q b).length) (l:=(frT q b++r).take (5-(Eu (frT q b).length).length)) (by
    rw[<-hw,<-y,B,<-e,CA,List.take_append,BI hm];rfl) (by simp) (by omega)];simp
  have hfl:(frB q b).length=(Eu (frT q b).length).length+(frT q b).length:=by rw[B,<-e,AP]
  have hdl2:d.length=(frB q b).length+r.length:=by rw[<-y,AP]
  generalize hM:(Eu (frT q b).length).length=M at *;generalize hN:(frT q b).length=N at *;have hN2:N=4+(Eu q.toNat).length+b.length:=by rw[<-hN,e];simp[Hk];omega
  rw[S];dsimp only;rw[BK,BL,BH,AT (by omega),Aq (n:=(s.length:Int)-i) (by omega) (by omega),Aq (n:=(s.length:Int)-i-M) (by omega) (by omega),decide_eq_false (by omega),AU,BO];rw[Aq (n:=i+M) (by omega) (by omega),Aq (n:=i+M+N) (by omega) (by omega),B4 (by omega),h _ (by omega) (by omega),Aa];have hT2:(d.drop M).take ((i+M+N).toNat-(i+M).toNat)=frT q b:=by
   rw[<-y,B,<-e,CA,Cj hM,Cs (by omega)]
  rw[hT2];have X:gN (frT q b) 4=(q,((4+(Eu q.toNat).length:Nat):Int),true):=by
   rw[RE (pre:=four ((Js (pN q++b):Nat):Int)) (n:=q.toNat) (l:=b) e (by simp[Hk]) (by omega)];simp[Hk];omega
  rw[NZ (by omega),AB,X];dsimp only;rw[BK,BL,B4 (by omega)];have hb:((frT q b).drop ((4+(Eu q.toNat).length:Nat):Int).toNat).take ((frT q b).length-((4+(Eu q.toNat).length:Nat):Int).toNat)=b:=by
   rw[Aa,hN,e,<-CA,Cj (by simp[Hk]),BI (by omega)]
  have hf:((d).take ((i+M+N).toNat-i.toNat))=frB q b:=by
   rw[<-y,Cs (by omega)]
  rw[hb,Po,AB];have L:(frB q b==[])=false:=by rw[aD];cases hh:frB q b with|nil=>rw[hh]at J;simp at J|cons=>rfl
  rw[L,BO,B4 (by omega),hf,AU];have j:(frB q b != frB q b)=false:=by simp
  rw[j,BO,H];simp only[AD,A0,and_true,Bu.mk.injEq,true_and];omega
 ·-- there is none
  rw[H];rcases hg:gN w 0 with ⟨n,m,ok⟩;cases ok with
  |false=>dsimp only;simp only[BK,BO,BL,AU]|true=>
   obtain⟨n',l,E,Y,h3,h4,h5,h6⟩:=rH hg;have hn5:=Jc h6;have hwlen:w.length=(Eu n').length+l.length:=by have:=congrArg List.length h3;simpa using this
   dsimp only;rw[BK,BL,BH];by_cases Z:n<6
   .rw[AW Z];simp only[BL,AU]
   rw[AT Z,Aq (n:=(s.length:Int)-i) (by omega) (by omega),Aq (n:=(s.length:Int)-i-m) (by omega) (by omega),AU,BH];by_cases h8:n>(s.length:Int)-i-m
   .rw[AW h8]
   rw[AT h8,Aq (n:=i+m) (by omega) (by omega),Aq (n:=i+m+n) (by omega) (by omega),B4 (by omega),h _ (by omega) (by omega)];generalize ht:(d.drop m.toNat).take ((i+m+n).toNat-(i+m).toNat)=t;have htl:t.length<=s.length:=by rw[<-ht,Bb,BX];omega
   rw[NZ (by omega),AB];rcases I:gN t 4 with ⟨q,k,ok⟩;cases ok with
   |false=>dsimp only;simp only[BK,BO,BL,AU]|true=>
    obtain⟨q',l',S,X,g3,g4,g5,g6⟩:=rH I;have hkl:k<=t.length:=by
     have:=congrArg List.length g3;rw[BX,AP]at this;omega
    dsimp only;rw[BK,BL,B4 (by omega),Po,AB];generalize hbb:List.take (t.length-k.toNat) (List.drop k.toNat t)=bb;rw[aD,BH];by_cases G:frB q bb=[]
    .rw[AW G];simp only[BL,AU]
    rw[AT G,B4 (by omega),AU,qI];by_cases g:frB q bb=List.take ((i+m+n).toNat-i.toNat) d
    .exfalso;exact O q bb (API G) (by rw[g];exact HE _ _)
    .rw[AT g]
theorem oO{s:List UInt8}{i:Int}(h:(Tg s i).2=true):0<=i/\i+7<=(Tg s i).1.Next/\(Tg s i).1.Next<=s.length:=by
 unfold Tg at h ⊢;split at h
 .rename_i hi;rw[AW hi];rcases Pg (s.drop i.toNat) i with ⟨q,b,c,j,a⟩|⟨g,a⟩
  .rw[a];have:=V8 c;have e:=j.length_le;rw[BX]at e;dsimp only;omega
  .rw[a]at h;simp at h
 .simp at h
def frs:Nat->List UInt8->Int->List Bu|0,_,_=>[]|f+1,s,i=>if (Tg s i).2=true then (Tg s i).1::frs f s (Tg s i).1.Next else []
def Eg(s:List UInt8):List Bu:=frs (s.length+1) s 0
theorem rG{s:List UInt8}(q:s.length<=1048576){G:Int->AA (Bu×Bool)}(hG:∀i:Int,0<=i->i<=s.length->G i=some (Tg s i)){F:(List Bu×Int->AA (List Bu))->List Bu×Int->AA (List Bu)}
 (hF:∀L acc i,F L (acc,i)=bd (G i) fun x=>br (!x.2) (some acc) (gd (acc.length+[x.1].length<=lim) (L (acc++[x.1],x.1.Next)))) :
 ∀(f n:Nat) (acc:List Bu) (i:Int),0<=i->i<=s.length->s.length<f+i->f<=n->(acc.length:Int)<=i->A3 F n (acc,i)=some (acc++frs f s i)
 |0,n,acc,i,a,c,e,g,h=>by omega|f+1,0,acc,i,a,c,e,g,h=>by omega|f+1,n+1,acc,i,a,c,e,g,h=>by
  rw[Dv,hF,hG i a c,AB,BK];unfold frs;cases y:(Tg s i).2 with
  |false=>simp|true=>
   have j:=oO y;rw[BL,B4 (by simp only[AJ,AS];unfold lim;omega),AW rfl];rw[rG q hG hF f n _ _ (by omega) j.2.2 (by omega) (by omega) (by rw[AP,AJ,AS];omega)];simp
theorem Rq{s:List UInt8}(a:s.length<=1048576):nc s=some (Eg s):=by
 unfold nc Eg;have:=rG a (G:=zp s) (F:=eU s) (fun i _ _=>uf (by omega) i) (fun L acc i=>by unfold eU;rfl) (s.length+1) big [] 0 (by omega) (by omega) (by omega) (by have:=PU;omega) (by simp);rw[this];simp
theorem RO{s:List UInt8}(a:s.length<=1048576):nd s=some (Eg s):=by
 unfold nd Eg;have:=rG a (G:=zt s) (F:=eX s) (fun i _ _=>su (by omega) i (by omega)) (fun L acc i=>by unfold eX;rfl) (s.length+1) big [] 0 (by omega) (by omega) (by omega) (by have:=PU;omega) (by simp);rw[this];simp
theorem AJm:∀(f:Nat) (s:List UInt8) (i:Int),0<=i->i<=s.length->((frs f s i).length:Int)<=s.length-i
 |0,s,i,a,h=>by simp[frs];omega|f+1,s,i,a,h=>by
  unfold frs;split
  .rename_i e;have c:=oO e;have:=AJm f s (Tg s i).1.Next (by omega) c.2.2;rw[AJ];omega
  .simp;omega
theorem M0(s:List UInt8):(Eg s).length<=s.length:=by
 have:=AJm (s.length+1) s 0 (by omega) (by omega);unfold Eg;omega
def AC3(p:Int):Int->List Bu->Int|r,[]=>r|r,f::l=>if f.Seq<=p then AC3 p f.Next l else r
theorem ui{x:Br}(c:x.Log.Data.length<=1048576)(p:Int):AID x p=some (AC3 p 0 (Eg x.Log.Data)):=by
 unfold AID;rw[Rq c,AB];have g:=M0 x.Log.Data;generalize Eg x.Log.Data=l at *;refine DA (n:=l.length) (fun i (v:Int)=>(v,(i:Int))) (fun _ _=>True) (fun i v=>some (AC3 p v (l.drop i))) (by omega) ?_ trivial;intro L i v _ hi e;unfold zr eV zq;dsimp only;simp only[dec_lt,AU];rcases Ab i l.length with h|h
 .rw[decide_eq_true h,BL,BG h,AB,AB,AB,AB,BH,Bp h (by omega),DR h];unfold AC3;by_cases a:l[i].Seq<=p
  .rw[AW a,AW a,e _ trivial h]
  .rw[AT a,AT a]
 .rw[decide_eq_false (by omega),BO,BO,A9 h];rfl
theorem sy{x:Br}(c:x.Log.Data.length<=1048576)(p:Int):AIE x p=some (AC3 p 0 (Eg x.Log.Data)):=by
 unfold AIE;rw[RO c,AB];have g:=M0 x.Log.Data;generalize Eg x.Log.Data=l at *;refine DA (n:=l.length) (fun i (v:Int)=>(v,(i:Int))) (fun _ _=>True) (fun i v=>some (AC3 p v (l.drop i))) (by omega) ?_ trivial;intro L i v _ hi e;unfold zu eY;dsimp only;simp only[dec_lt,AU];rcases Ab i l.length with h|h
 .rw[decide_eq_true h,BL,BG h,AB,AB,BH,Bp h (by omega),DR h];unfold AC3;by_cases a:l[i].Seq<=p
  .rw[AT (by omega),AW a,e _ trivial h]
  .rw[AW (by omega),AT a]
 .rw[decide_eq_false (by omega),BO,A9 h];rfl
theorem AWs(q:Int):frB q []=[]:=by unfold frB;rw[AT (fun h=>by have:=h.2.1;simp at this)]
theorem ACp(n:Int)(q:Bo):zb n q=some (frB n (Gf q)):=by
 unfold zb;rw[TJ,AB,aD,BH];split
 .rename_i h;rw[h,AWs]
 .rw[QA,AB]
theorem ABg(n:Int)(q:Bo):zE n q=some (frB n (Gf q)):=by
 unfold zE;rw[S5,AB,Po,AB]
theorem APH(q:Int)(b:List UInt8):(frB q b).length<=74:=by
 by_cases h:Pf q b
 .exact(V8 h).2
 .unfold frB;rw[AT h];simp
theorem AaJ{l:List Ad}(a:l.length<=1048576):Ur l=some l:=Ru (by unfold lim;omega)
theorem wJ{F:(Int×Av->AA Av)->Int×Av->AA Av}{w:Av}(c:DP w)
 (step:∀L i (h:i<w.An.length) (v:Av),v.An.length=i->F L ((i:Int),v)=L (w64 ((i:Int)+1),⟨v.An++[w.An[i]]⟩)) (stop:∀L v,F L ((w.An.length:Int),v)=some v):A3 F big (0,⟨[]⟩)=some w:=by
 have e:=c.1;refine DA (n:=w.An.length) (fun i (v:Av)=>((i:Int),v)) (fun i v=>v=⟨w.An.take i⟩) (fun _ _=>some w) (by omega) ?_ (v:=⟨[]⟩) (by simp);intro L i v a hi g;rcases Ab i w.An.length with h|h
 .rw[step L i h v (by rw[a];simp;omega),Bp h (by omega)]
  grind[List.take_add_one]
 .obtain rfl:i=w.An.length:=by omega
  rw[stop,a,JT]
theorem SB{w:Av}(a:DP w):dx w=some w:=by
 have hlim:lim=268435456:=rfl;have c:=a.1;have e:=a.2
 grind[dx,wJ,IY,zW,BL,BG,AB,B4,zV,BO,AU]
theorem SA{w:Av}(a:DP w):eF w=some w:=by
 have hlim:lim=268435456:=rfl;have c:=a.1;have e:=a.2
 grind[eF,wJ,IY,zd,BL,BG,AB,B4,zc,BO,AU]
theorem AKu{c:AX}(a:EC c):AH7 c=some c:=by
 unfold AH7;rw[AaJ a.1,AB,SB a.2,AB]
theorem AKt{c:AX}(a:EC c):AH9 c=some c:=by
 unfold AH9 VR;have:=a.1;rw[B4 (by unfold lim;omega),AB,SA a.2,AB]
theorem R9{l:List Int}(a:l.length<=1048576):JX l=some l:=by
 unfold JX;rw[B4 (by unfold lim;omega)]
theorem wH{F:(Int×AF->AA AF)->Int×AF->AA AF}{h:AF}(e:By h)
 (step:∀L i (hi:i<h.AH.length) (v:AF),v.AH.length=i->F L ((i:Int),v)=L (w64 ((i:Int)+1),⟨v.AQ,v.Now,v.Ay,v.AG,v.AH++[h.AH[i]],v.BE,v.BC⟩)) (stop:∀L v,F L ((h.AH.length:Int),v)=some v):A3 F big (0,⟨h.AQ,h.Now,h.Ay,h.AG,[],h.BE,h.BC⟩)=some h:=by
 have g:=e.EN;refine DA (n:=h.AH.length) (fun i (v:AF)=>((i:Int),v)) (fun i v=>v=⟨h.AQ,h.Now,h.Ay,h.AG,h.AH.take i,h.BE,h.BC⟩) (fun _ _=>some h) (by omega) ?_ (v:=⟨h.AQ,h.Now,h.Ay,h.AG,[],h.BE,h.BC⟩) (by simp);intro L i v c hi j;rcases Ab i h.AH.length with a|a
 .rw[step L i a v (by rw[c];simp;omega),Bp a (by omega)]
  grind[List.take_add_one]
 .obtain rfl:i=h.AH.length:=by omega
  rw[stop,c,JT]
theorem HF{h:AF}(a:By h):Ms h=some h:=by
 have hlim:lim=268435456:=rfl;have c:=a.Dr;have p1:=a.CN;have p2:=a.todo;have p3:=a.F5;have p4:=a.EN;have e:0+h.AG.length<=lim:=by omega
 have g:0+h.BE.length<=lim:=by omega
 have j:0+h.BC.length<=lim:=by omega
 unfold Ms;simp only[ALZ c,AB,B4 e,B4 g,B4 j,AGj,B5,KC,Jw,C6,CS,zX,LD,zY,dy,Cy,nC,OZ,XQ,MT,MU,nE,nD,eA,nG,XR,XT,XS,XU,nI,nH,nF,Hm,nL,XV,XX,XW,XY,nN,nM,nK,SG,XZ,Xa,nR,nQ,nP,nW,Xb,nV,nU,nZ,nY,nX,nS,nO,nJ];refine wH a ?_ ?_
 .intro L i hi v q;unfold Xc;dsimp only;rw[B6 hi,BL,BG hi,AB,AKu (a.Dw _ (Ao hi)),AB,B4 (by rw[NM];omega)]
 grind[Xc,na,BO,AU]
theorem GQ{h:AF}(a:By h):Mu h=some h:=by
 have hlim:lim=268435456:=rfl;have c:=a.Dr;have p1:=a.CN;have p2:=a.todo;have p3:=a.F5;have p4:=a.EN;have e:0+h.AG.length<=lim:=by omega
 unfold Mu;simp only[ALY c,AB,B4 e,R9 p2,R9 p3,Ch,KX,KY,KZ,Ka,Jw,Kb,Kc,KC,Hf,JA,LR,MR,QG];refine wH a ?_ ?_
 .intro L i hi v g;unfold eG;dsimp only;rw[B6 hi,BL,BG hi,AB,AKt (a.Dw _ (Ao hi)),AB,B4 (by rw[NM];omega)]
 grind[eG,ze,BO,AU]
theorem KW{e:BD}(a:Cw e):Ss e=some e:=by
 have hlim:lim=268435456:=rfl;have:=a.laid;have g:0+e.Laid.length<=lim:=by omega
 unfold Ss;simp only[HF a.FY,AB,B4 g,Ch,KX,KY,KZ,Ka,Jw,Kb,Kc,KC,Hf,JA,LR,MR,QG,B5]
theorem Mo{e:BD}(a:Cw e):ZE e=some e:=by
 have hlim:lim=268435456:=rfl;have:=a.laid;unfold ZE;rw[GQ a.FY,AB,B4 (by omega)]
def JC(a:B3)(s:List UInt8):B3×Bool:=if Ii a=true/\(a.Data.length:Int)+s.length<=20000 then (⟨a.Data++s,a.Safe⟩,true) else (a,false)
theorem R5{a:B3}:Ii a=true↔(a.Data.length:Int)<=20000/\0<=a.Safe/\a.Safe<=a.Data.length:=by
 grind[Ii,CQ]
theorem Zn{a:B3}{s:List UInt8}(c:s.length<=4000):eC a s=some (JC a s):=by
 grind[N5,eC,eD,JC,HR,AB,BK,AU,Ii,Aq,B4,BH]
theorem ZS{a:B3}{s:List UInt8}(c:a.Data.length<=1048576)(e:s.length<=4000):de a s=some (JC a s):=by
 grind[N5,de,dg,JC,B4,IJ,AB,AU,BL,R5,BO]
def ABk(e:BD)(q:Bo):BD×Int:=
 if FO e=false then (e,21) else if KE q=false then (e,22) else if e.Seq=1000000 then (e,23) else if e.Laid.length=8\/(JC e.Bl.Log (frB (w64 (e.Seq+1)) (Gf q))).2=false then (e,24)
 else (⟨e.Az,⟨(JC e.Bl.Log (frB (w64 (e.Seq+1)) (Gf q))).1,e.Bl.EJ,e.Bl.Odd⟩,w64 (e.Seq+1),e.Laid++[q]⟩,0)
theorem AVO{e:BD}(a:Cw e)(q:Bo):AH8 e q=some (ABk e q):=by
 have hlim:lim=268435456:=rfl;have g:=a.laid;have c:=APH (w64 (e.Seq+1)) (Gf q);unfold AH8 ABk;simp only[KW a,I8 a,ky,ACp,Zn (A1 c (by omega):(frB (w64 (e.Seq+1)) (Gf q)).length<=4000),AB,Ch,KX,KY,KZ,Ka,Jw,Kb,Kc,KC,Hf,JA,LR,MR,QG,BK,AU];unfold eE;rw[BK,BL,B4 (by rw[NM];omega)];cases FO e with
 |false=>rfl|true=>
  cases KE q with
  |false=>rfl|true=>
   simp only[BL,CJ,beq_iff_eq]
   grind
theorem AS5{e:BD}(a:Cw e)(q:Bo):AHx e q=some (ABk e q):=by
 have hlim:lim=268435456:=rfl;have g:=a.laid;have c:=APH (w64 (e.Seq+1)) (Gf q);unfold AHx ABk;simp only[Mo a,I4 a,jQ,ABg,ZS a.log (A1 c (by omega):(frB (w64 (e.Seq+1)) (Gf q)).length<=4000),AB,Ch,KX,KY,KZ,Ka,Jw,Kb,Kc,KC,Hf,JA,LR,MR,QG,BK]
 grind[B4,CJ]
theorem ADS{e:BD}(h:FO e=true):D6 e.Az=true/\NI e.Bl=true/\e.Laid.length<=8/\((e.Laid.length:Int)<=e.Seq/\e.Seq<=1000000)/\e.Laid.all KE=true:=by
 grind[FO,CQ]
theorem Y0{a:B3}{s:List UInt8}(c:a.Data.length<=1048576):(JC a s).1.Data.length<=1048576:=by
 grind[JC]
theorem ATH{e:BD}(a:Cw e)(q:Bo):Cw (ABk e q).1:=by
 unfold ABk;split
 .exact a
 .rename_i c;rw[Bool.not_eq_false]at c;have g:=ADS c;split
  .exact a
  .split
   .exact a
   .split
    .exact a
    .exact⟨a.FY,Y0 a.log,a.even,a.odd,by dsimp only;rw[AP,List.length_singleton];omega⟩
theorem AXi(q:Bo):AOK q=some q:=rfl
end Lv.P
