/- Plain laws about what the program computes. -/
import Derived.Test.YtcmjfplpdjflnaaGreatPDb
noncomputable section
set_option linter.unusedVariables false
set_option linter.unusedSimpArgs false
set_option linter.unusedSectionVars false
open Int renaming toNat_natCast->Ad
open List renaming append_assoc->CD,append_inj->Jt,drop_eq_nil_of_le->A9,drop_left'->Ch,drop_zero->Cn,getElem_mem->Au,length_append->AP,length_cons->AI,length_drop->BY,length_nil->AR,length_take->BS,nil_append->B9,take_left'->Cs,take_length->Du,take_of_length_le->BI,take_prefix->HL
open Nat renaming le_trans->Aw,lt_or_ge->AZ
open Option.some renaming injEq->AD
open Prod.mk renaming injEq->A1
namespace Lv.P
open Go (IntKind BinOp UnOp)
theorem RR{w pre l:List UInt8}{n:Nat}{i:Int}(a:w=pre++(Ey n++l))(hi:i=pre.length)(c:n<=2147483647):gN w i=((n:Int),((pre.length+(Ey n).length:Nat):Int),true):=by
 subst a;subst hi;have:=Hl n;unfold gN
 grind[List.length_append,Int.toNat_natCast,List.drop_left,tx,Jm,qX]
theorem qW{w:List UInt8}{i n j:Int}(h:gN w i=(n,j,true)):∃(m:Nat) (l:List UInt8),0<=i/\i<w.length/\w.drop i.toNat=Ey m++l/\n=(m:Int)/\j=i+(Ey m).length/\m<=2147483647:=by
 unfold gN at h;split at h
 .rename_i hi;cases a:rdN 5 0 0 (w.drop i.toNat) with
  |none=>rw[a]at h;simp[qX]at h|some x=>
   grind[qX,Prod.mk.injEq,aY]
 .simp at h
theorem qU{q:Int}{b:List UInt8}(h:Pq q b):frB q b=Ey (frT q b).length++(four ((J0 (pN q++b):Nat):Int)++(Ey q.toNat++b))/\frT q b=four ((J0 (pN q++b):Nat):Int)++(Ey q.toNat++b):=by
 have hT:=Nf h;have e:pN q=Ey q.toNat:=by unfold pN;rw[AX (by have:=h.1;omega)]
 have a:frT q b=four ((J0 (pN q++b):Nat):Int)++(Ey q.toNat++b):=by unfold frT;rw[e]
 refine⟨?_,a⟩;unfold frB;rw[AX h,<-a];have c:pN ((frT q b).length:Int)=Ey (frT q b).length:=by unfold pN;rw[AX (by omega),Ad]
 rw[c]
theorem AWF{q q':Int}{b a d:List UInt8}(h:Pq q b)(j:Pq q' a)(X:frB q b <+: d)(E:frB q' a <+: d):q=q'/\b=a:=by
 obtain⟨r,rfl⟩:=X;obtain⟨r',y⟩:=E;obtain⟨L,H⟩:=qU h;obtain⟨B,c⟩:=qU j;have hT:=Nf h;have hT':=Nf j;rw[L,B,<-H,<-c,CD,CD]at y;have O:=RR (w:=Ey (frT q b).length++(frT q b++r)) (pre:=[]) (i:=0) rfl rfl (by omega:(frT q b).length<=2147483647);have I:=RR (w:=Ey (frT q b).length++(frT q b++r)) (pre:=[]) (i:=0) (l:=frT q' a++r') (by rw[<-y];rfl) rfl (by omega:(frT q' a).length<=2147483647);rw[O]at I;have S:(frT q b).length=(frT q' a).length:=by have:=congrArg Prod.fst I;simp at this;omega
 rw[<-S]at y;have G:=List.append_cancel_left y;have e:=(Jt G (by omega)).1;rw[H,c]at e;have g:=(Jt e (by rw[Hr,Hr])).2;have Q:=RR (w:=Ey q.toNat++b) (pre:=[]) (i:=0) rfl rfl (by have:=h.1;omega:q.toNat<=2147483647);have J:=RR (w:=Ey q.toNat++b) (pre:=[]) (i:=0) (l:=a) (by rw[<-g];rfl) rfl (by have:=j.1;omega:q'.toNat<=2147483647);rw[Q]at J;have Y:q.toNat=q'.toNat:=by have:=congrArg Prod.fst J;simp at this;omega
 rw[<-Y]at g;have:=h.1;have:=j.1
 grind[List.append_cancel_left]
def ADK(d:List UInt8)(i:Int):Bv×Bool:=
 open Classical in if h:∃x:Int×List UInt8,Pq x.1 x.2/\frB x.1 x.2 <+: d then (⟨h.choose.1,h.choose.2,i+(frB h.choose.1 h.choose.2).length⟩,true) else (⟨0,[],0⟩,false)
theorem AWH{q:Int}{b d:List UInt8}{i:Int}(h:Pq q b)(a:frB q b <+: d):ADK d i=(⟨q,b,i+(frB q b).length⟩,true):=by
 unfold ADK;have c:∃x:Int×List UInt8,Pq x.1 x.2/\frB x.1 x.2 <+: d:=⟨(q,b),h,a⟩
 grind[AWF]
theorem nN{d:List UInt8}{i:Int}(h:∀q b,Pq q b->¬frB q b <+: d):ADK d i=(⟨0,[],0⟩,false):=by
 grind[ADK]
theorem Pr(d:List UInt8)(i:Int):(∃q b,Pq q b/\frB q b <+: d/\ADK d i=(⟨q,b,i+(frB q b).length⟩,true))\/((∀q b,Pq q b->¬frB q b <+: d)/\ADK d i=(⟨0,[],0⟩,false)):=by
 grind[Pq,frB,AWH,nN]
def Ts(s:List UInt8)(i:Int):Bv×Bool:=if 0<=i/\i<=s.length then ADK (s.drop i.toNat) i else (⟨0,[],0⟩,false)
@[simp] theorem Rh(a b:Int):dZ a b=some (if a<b then a else b):=by
 unfold dZ;rw[BQ];split<;>rfl
theorem AUy{p d:List UInt8}{n:Nat}(h:p <+: d)(a:p.length<=n):p <+: d.take n:=by
 grind[List.take_append,List.take_of_length_le]
theorem Zy(b:List UInt8):(b==[])=decide (b=[]):=by cases b<;>rfl
theorem uO{s:List UInt8}(hs:s.length<2 ^ 62)(i:Int):zH s i=some (Ts s i):=by
 unfold zH Ts;rw[aQ,AB,BB,BQ];by_cases hi:0<=i/\i<=(s.length:Int)
 rotate_left
 .rw[AU hi,AU hi]
 rw[AX hi,AX hi,Rh,AB,Ah (by omega) (by omega)];generalize hx:(if (s.length:Int)<i+80 then (s.length:Int) else i+80)=x;have O:i<=x/\x<=(s.length:Int):=by split at hx<;>omega
 rw[B8 ⟨hi.1,O⟩];unfold VO da db;have hW:(s.drop i.toNat).take (x.toNat-i.toNat)=(s.drop i.toNat).take 80:=by
  split at hx
  .rw[BI (by rw[BY];omega),BI (by rw[BY];omega)]
  .congr 1;omega
 rw[hW];generalize hd:s.drop i.toNat=d at *;have hdl:d.length=s.length-i.toNat:=by rw[<-hd,BY]
 generalize J:d.take 80=w;have hwl:w.length<=80/\w.length<=d.length:=by rw[<-J,BS];omega
 rw[Nq (by omega) _ (by omega),AB];have L:w <+: d:=by rw[<-J];exact HL _ _
 rcases Pr d i with ⟨q,b,c,hp,G⟩|⟨I,G⟩
 ·-- there is a frame
  have hl:=V2 c;obtain⟨r,j⟩:=AUy (n:=80) hp (by omega);rw[J]at j;obtain⟨y,B⟩:=qU c;have hT:=Nf c;have hq:=c.1;have Q:gN w 0=(((frT q b).length:Int),(((Ey (frT q b).length).length:Nat):Int),true):=by
   rw[RR (w:=w) (i:=0) (pre:=[]) (n:=(frT q b).length) (l:=frT q b++r) (by rw[<-j,y,<-B];simp) (by simp) (by omega)];simp
  have hm:=Jm (n:=(frT q b).length) (by omega);have hfl:(frB q b).length=(Ey (frT q b).length).length+(frT q b).length:=by rw[y,<-B,AP]
  have hwl2:w.length=(frB q b).length+r.length:=by rw[<-j,AP]
  generalize hM:(Ey (frT q b).length).length=M at *;generalize hN:(frT q b).length=N at *;have hN2:N=4+(Ey q.toNat).length+b.length:=by rw[<-hN,B];simp[Hr];omega
  rw[Q];dsimp only;rw[BB,BK,Ah (n:=(w.length:Int)-M) (by omega) (by omega),BQ,AU (by omega),decide_eq_false (by omega),AV,BL,Ah (n:=(M:Int)+4) (by omega) (by omega)];have S:gN w ((M:Int)+4)=(q,((M+4+(Ey q.toNat).length:Nat):Int),true):=by
   rw[RR (pre:=Ey N++four ((J0 (pN q++b):Nat):Int)) (n:=q.toNat) (l:=b++r) (by rw[<-j,y];simp) (by simp[Hr,hM]) (by omega)];simp[Hr,hM];omega
  rw[Nq (by omega) _ (by omega),AB,S];dsimp only;rw[BB,BK,Ah (n:=(M:Int)+N) (by omega) (by omega),decide_eq_false (by omega),AV,BL,B8 (by omega),B8 (by omega)];have hb:((w.drop ((M+4+(Ey q.toNat).length:Nat):Int).toNat).take (((M:Int)+N).toNat-((M+4+(Ey q.toNat).length:Nat):Int).toNat))=b:=by
   have e3:w=(Ey N++four ((J0 (pN q++b):Nat):Int)++Ey q.toNat)++(b++r):=by rw[<-j,y];simp
   rw[Ad,e3,Ch (by simp[Hr,hM];omega),Cs (by omega)]
  have hf:((w.drop 0).take (((M:Int)+N).toNat-0))=frB q b:=by
   rw[Cn,<-j,Cs (by omega)]
  rw[hb,hf,QO,AB];have g:(frB q b != frB q b)=false:=by simp
  have E:(b==[])=false:=by rw[Zy];have:=c.2;cases b<;>simp at this ⊢
  rw[g,BL,AV,E,BL,G];have hfw:(((Ey N).length:Nat):Int)=M:=by omega
  simp only[AD,A1,and_true,Bv.mk.injEq,true_and];rw[Ah (n:=i+M) (by omega) (by omega),Ah (by omega) (by omega)];omega
 ·-- there is none
  rw[G];rcases hg:gN w 0 with ⟨n,m,ok⟩;cases ok with
  |false=>dsimp only;simp only[BB,BL,BK,AV]|true=>
   obtain⟨n',l,h1,h2,h3,h4,h5,h6⟩:=qW hg;have hn5:=Jm h6;have hwlen:w.length=(Ey n').length+l.length:=by have:=congrArg List.length h3;simpa using this
   dsimp only;rw[BB,BK,Ah (n:=(w.length:Int)-m) (by omega) (by omega),BQ];by_cases X:n>(w.length:Int)-m
   .rw[AX X];simp only[BK,AV]
   rw[AU X,AV,BQ];by_cases Y:n<5
   .rw[AX Y]
   rw[AU Y,Ah (n:=m+4) (by omega) (by omega),Nq (by omega) _ (by omega),AB];rcases H:gN w (m+4) with ⟨q,k,ok⟩;cases ok with
   |false=>dsimp only;simp only[BB,BL,BK,AV]|true=>
    obtain⟨q',l',Q,S,g3,g4,g5,g6⟩:=qW H;dsimp only;rw[BB,BK,Ah (n:=m+n) (by omega) (by omega),AV,BQ];by_cases Z:k>m+n
    .rw[AX Z]
    rw[AU Z,B8 (by omega),B8 (by omega),QO,AB,pE,Cn,Nat.sub_zero];generalize hbb:List.take ((m+n).toNat-k.toNat) (List.drop k.toNat w)=bb;by_cases e:frB q bb=List.take (m+n).toNat w
    .rw[AX e];exfalso;have g:frB q bb≠[]:=by
      rw[e];intro h;have:=congrArg List.length h;rw[BS]at this;simp only[AR]at this;omega
     exact I q bb (AOf g) (by rw[e];exact(HL _ _).trans L)
    .rw[AU e];simp only[BK,AV]
theorem sR{s:List UInt8}(hs:s.length<2 ^ 62)(i:Int)(hi':i<2 ^ 62):zK s i=some (Ts s i):=by
 unfold zK Ts Ly;rw[PT,AB,AB,Ah (n:=(s.length:Int)-1) (by omega) (by omega),BB,BQ];by_cases hi:0<=i/\i<=(s.length:Int)
 rotate_left
 .rw[AU (by omega),AU hi]
 rw[AX hi];by_cases hi2:i=(s.length:Int)
 .rw[AU (by omega)];congr 1;rw[nN];intro q b E Y;have J:=V2 E;have:=Y.length_le;rw[BY]at this;omega
 rw[AX (by omega)];simp only[Bool.false_eq_true,if_false];rw[Ah (n:=i+5) (by omega) (by omega)];generalize hx:(if i+5<(s.length:Int) then i+5 else (s.length:Int))=x;have Q:i<=x/\x<=(s.length:Int):=by split at hx<;>omega
 rw[B8 ⟨hi.1,Q⟩];unfold VP dh;have hW:(s.drop i.toNat).take (x.toNat-i.toNat)=(s.drop i.toNat).take 5:=by
  split at hx
  .congr 1;omega
  .rw[BI (by rw[BY];omega),BI (by rw[BY];omega)]
 rw[hW];generalize hd:s.drop i.toNat=d at *;have hdl:d.length=s.length-i.toNat:=by rw[<-hd,BY]
 generalize hw:d.take 5=w;have hwl:w.length<=5/\w.length<=d.length:=by rw[<-hw,BS];omega
 rw[Ni (by omega),AB];have h:∀m:Int,0<=m->i+m<=s.length->s.drop (i+m).toNat=d.drop m.toNat:=by
  intro m h0 E;rw[<-hd,List.drop_drop];congr 1;omega
 rcases Pr d i with ⟨q,b,c,hp,H⟩|⟨O,H⟩
 ·-- there is a frame
  have J:=V2 c;obtain⟨r,y⟩:=hp;obtain⟨B,e⟩:=qU c;have hT:=Nf c;have hq:=c.1;have hm:=Jm (n:=(frT q b).length) (by omega);have S:gN w 0=(((frT q b).length:Int),(((Ey (frT q b).length).length:Nat):Int),true):=by
   rw[RR (w:=w) (i:=0) (pre:=[]) (n:=(frT q b).length) (l:=(frT q b++r).take (5-(Ey (frT q b).length).length)) (by
    rw[<-hw,<-y,B,<-e,CD,List.take_append,BI hm];rfl) (by simp) (by omega)];simp
  have hfl:(frB q b).length=(Ey (frT q b).length).length+(frT q b).length:=by rw[B,<-e,AP]
  have hdl2:d.length=(frB q b).length+r.length:=by rw[<-y,AP]
  generalize hM:(Ey (frT q b).length).length=M at *;generalize hN:(frT q b).length=N at *;have hN2:N=4+(Ey q.toNat).length+b.length:=by rw[<-hN,e];simp[Hr];omega
  rw[S];dsimp only;rw[BB,BK,BQ,AU (by omega),Ah (n:=(s.length:Int)-i) (by omega) (by omega),Ah (n:=(s.length:Int)-i-M) (by omega) (by omega),decide_eq_false (by omega),AV,BL];rw[Ah (n:=i+M) (by omega) (by omega),Ah (n:=i+M+N) (by omega) (by omega),B8 (by omega),h _ (by omega) (by omega),Ad];have hT2:(d.drop M).take ((i+M+N).toNat-(i+M).toNat)=frT q b:=by
   rw[<-y,B,<-e,CD,Ch hM,Cs (by omega)]
  rw[hT2];have X:gN (frT q b) 4=(q,((4+(Ey q.toNat).length:Nat):Int),true):=by
   rw[RR (pre:=four ((J0 (pN q++b):Nat):Int)) (n:=q.toNat) (l:=b) e (by simp[Hr]) (by omega)];simp[Hr];omega
  rw[Ni (by omega),AB,X];dsimp only;rw[BB,BK,B8 (by omega)];have hb:((frT q b).drop ((4+(Ey q.toNat).length:Nat):Int).toNat).take ((frT q b).length-((4+(Ey q.toNat).length:Nat):Int).toNat)=b:=by
   rw[Ad,hN,e,<-CD,Ch (by simp[Hr]),BI (by omega)]
  have hf:((d).take ((i+M+N).toNat-i.toNat))=frB q b:=by
   rw[<-y,Cs (by omega)]
  rw[hb,P3,AB];have L:(frB q b==[])=false:=by rw[Zy];cases hh:frB q b with|nil=>rw[hh]at J;simp at J|cons=>rfl
  rw[L,BL,B8 (by omega),hf,AV];have j:(frB q b != frB q b)=false:=by simp
  rw[j,BL,H];simp only[AD,A1,and_true,Bv.mk.injEq,true_and];omega
 ·-- there is none
  rw[H];rcases hg:gN w 0 with ⟨n,m,ok⟩;cases ok with
  |false=>dsimp only;simp only[BB,BL,BK,AV]|true=>
   obtain⟨n',l,E,Y,h3,h4,h5,h6⟩:=qW hg;have hn5:=Jm h6;have hwlen:w.length=(Ey n').length+l.length:=by have:=congrArg List.length h3;simpa using this
   dsimp only;rw[BB,BK,BQ];by_cases Z:n<6
   .rw[AX Z];simp only[BK,AV]
   rw[AU Z,Ah (n:=(s.length:Int)-i) (by omega) (by omega),Ah (n:=(s.length:Int)-i-m) (by omega) (by omega),AV,BQ];by_cases h8:n>(s.length:Int)-i-m
   .rw[AX h8]
   rw[AU h8,Ah (n:=i+m) (by omega) (by omega),Ah (n:=i+m+n) (by omega) (by omega),B8 (by omega),h _ (by omega) (by omega)];generalize ht:(d.drop m.toNat).take ((i+m+n).toNat-(i+m).toNat)=t;have htl:t.length<=s.length:=by rw[<-ht,BS,BY];omega
   rw[Ni (by omega),AB];rcases I:gN t 4 with ⟨q,k,ok⟩;cases ok with
   |false=>dsimp only;simp only[BB,BL,BK,AV]|true=>
    obtain⟨q',l',S,X,g3,g4,g5,g6⟩:=qW I;have hkl:k<=t.length:=by
     have:=congrArg List.length g3;rw[BY,AP]at this;omega
    dsimp only;rw[BB,BK,B8 (by omega),P3,AB];generalize hbb:List.take (t.length-k.toNat) (List.drop k.toNat t)=bb;rw[Zy,BQ];by_cases G:frB q bb=[]
    .rw[AX G];simp only[BK,AV]
    rw[AU G,B8 (by omega),AV,pE];by_cases g:frB q bb=List.take ((i+m+n).toNat-i.toNat) d
    .exfalso;exact O q bb (AOf G) (by rw[g];exact HL _ _)
    .rw[AU g]
theorem nM{s:List UInt8}{i:Int}(h:(Ts s i).2=true):0<=i/\i+7<=(Ts s i).1.Next/\(Ts s i).1.Next<=s.length:=by
 unfold Ts at h ⊢;split at h
 .rename_i hi;rw[AX hi];rcases Pr (s.drop i.toNat) i with ⟨q,b,c,j,a⟩|⟨g,a⟩
  .rw[a];have:=V2 c;have e:=j.length_le;rw[BY]at e;dsimp only;omega
  .rw[a]at h;simp at h
 .simp at h
def frs:Nat->List UInt8->Int->List Bv|0,_,_=>[]|f+1,s,i=>if (Ts s i).2=true then (Ts s i).1::frs f s (Ts s i).1.Next else []
def Eh(s:List UInt8):List Bv:=frs (s.length+1) s 0
theorem qV{s:List UInt8}(q:s.length<=1048576){G:Int->AA (Bv×Bool)}(hG:∀i:Int,0<=i->i<=s.length->G i=some (Ts s i)){F:(List Bv×Int->AA (List Bv))->List Bv×Int->AA (List Bv)}
 (hF:∀L acc i,F L (acc,i)=bd (G i) fun x=>br (!x.2) (some acc) (gd (acc.length+[x.1].length<=lim) (L (acc++[x.1],x.1.Next)))) :
 ∀(f n:Nat) (acc:List Bv) (i:Int),0<=i->i<=s.length->s.length<f+i->f<=n->(acc.length:Int)<=i->A3 F n (acc,i)=some (acc++frs f s i)
 |0,n,acc,i,a,c,e,g,h=>by omega|f+1,0,acc,i,a,c,e,g,h=>by omega|f+1,n+1,acc,i,a,c,e,g,h=>by
  rw[Dh,hF,hG i a c,AB,BB];unfold frs;cases y:(Ts s i).2 with
  |false=>simp|true=>
   have j:=nM y;rw[BK,B8 (by simp only[AI,AR];unfold lim;omega),AX rfl];rw[qV q hG hF f n _ _ (by omega) j.2.2 (by omega) (by omega) (by rw[AP,AI,AR];omega)];simp
theorem R7{s:List UInt8}(a:s.length<=1048576):mc s=some (Eh s):=by
 unfold mc Eh;have:=qV a (G:=zH s) (F:=de s) (fun i _ _=>uO (by omega) i) (fun L acc i=>by unfold de;rfl) (s.length+1) big [] 0 (by omega) (by omega) (by omega) (by have:=Nw;omega) (by simp);rw[this];simp
theorem Rb{s:List UInt8}(a:s.length<=1048576):me s=some (Eh s):=by
 unfold me Eh;have:=qV a (G:=zK s) (F:=di s) (fun i _ _=>sR (by omega) i (by omega)) (fun L acc i=>by unfold di;rfl) (s.length+1) big [] 0 (by omega) (by omega) (by omega) (by have:=Nw;omega) (by simp);rw[this];simp
theorem AJA:∀(f:Nat) (s:List UInt8) (i:Int),0<=i->i<=s.length->((frs f s i).length:Int)<=s.length-i
 |0,s,i,a,h=>by simp[frs];omega|f+1,s,i,a,h=>by
  unfold frs;split
  .rename_i e;have c:=nM e;have:=AJA f s (Ts s i).1.Next (by omega) c.2.2;rw[AI];omega
  .simp;omega
theorem M7(s:List UInt8):(Eh s).length<=s.length:=by
 have:=AJA (s.length+1) s 0 (by omega) (by omega);unfold Eh;omega
def ACj(p:Int):Int->List Bv->Int|r,[]=>r|r,f::l=>if f.Seq<=p then ACj p f.Next l else r
theorem Wm{x:Bk}(c:x.Log.Data.length<=1048576)(p:Int):AHU x p=some (ACj p 0 (Eh x.Log.Data)):=by
 unfold AHU;rw[R7 c,AB];have g:=M7 x.Log.Data;generalize Eh x.Log.Data=l at *;refine C1 (n:=l.length) (fun i (v:Int)=>(v,(i:Int))) (fun _ _=>True) (fun i v=>some (ACj p v (l.drop i))) (by omega) ?_ trivial;intro L i v _ hi e;unfold zJ dg zI;dsimp only;simp only[dec_lt,AV];rcases AZ i l.length with h|h
 .rw[decide_eq_true h,BK,BJ h,AB,AB,AB,AB,BQ,Bt h (by omega),DR h];unfold ACj;by_cases a:l[i].Seq<=p
  .rw[AX a,AX a,e _ trivial h]
  .rw[AU a,AU a]
 .rw[decide_eq_false (by omega),BL,BL,A9 h];rfl
theorem sU{x:Bk}(c:x.Log.Data.length<=1048576)(p:Int):AHV x p=some (ACj p 0 (Eh x.Log.Data)):=by
 unfold AHV;rw[Rb c,AB];have g:=M7 x.Log.Data;generalize Eh x.Log.Data=l at *;refine C1 (n:=l.length) (fun i (v:Int)=>(v,(i:Int))) (fun _ _=>True) (fun i v=>some (ACj p v (l.drop i))) (by omega) ?_ trivial;intro L i v _ hi e;unfold zL dj;dsimp only;simp only[dec_lt,AV];rcases AZ i l.length with h|h
 .rw[decide_eq_true h,BK,BJ h,AB,AB,BQ,Bt h (by omega),DR h];unfold ACj;by_cases a:l[i].Seq<=p
  .rw[AU (by omega),AX a,e _ trivial h]
  .rw[AX (by omega),AU a]
 .rw[decide_eq_false (by omega),BL,A9 h];rfl
theorem AWG(q:Int):frB q []=[]:=by unfold frB;rw[AU (fun h=>by have:=h.2.1;simp at this)]
theorem ACW(n:Int)(q:Bp):yW n q=some (frB n (Gn q)):=by
 unfold yW;rw[TV,AB,Zy,BQ];split
 .rename_i h;rw[h,AWG]
 .rw[QO,AB]
theorem ABO(n:Int)(q:Bp):zA n q=some (frB n (Gn q)):=by
 unfold zA;rw[TL,AB,P3,AB]
theorem AOe(q:Int)(b:List UInt8):(frB q b).length<=74:=by
 by_cases h:Pq q b
 .exact(V2 h).2
 .unfold frB;rw[AU h];simp
theorem AZJ{l:List Af}(a:l.length<=1048576):qD l=some l:=SA (by unfold lim;omega)
theorem vk{F:(Int×A0->AA A0)->Int×A0->AA A0}{w:A0}(c:DW w)
 (step:∀L i (h:i<w.Ao.length) (v:A0),v.Ao.length=i->F L ((i:Int),v)=L (w64 ((i:Int)+1),⟨v.Ao++[w.Ao[i]]⟩)) (stop:∀L v,F L ((w.Ao.length:Int),v)=some v):A3 F big (0,⟨[]⟩)=some w:=by
 have e:=c.1;refine C1 (n:=w.Ao.length) (fun i (v:A0)=>((i:Int),v)) (fun i v=>v=⟨w.Ao.take i⟩) (fun _ _=>some w) (by omega) ?_ (v:=⟨[]⟩) (by simp);intro L i v a hi g;rcases AZ i w.Ao.length with h|h
 .rw[step L i h v (by rw[a];simp;omega),Bt h (by omega)]
  grind[List.take_add_one]
 .obtain rfl:i=w.Ao.length:=by omega
  rw[stop,a,Du]
theorem SN{w:A0}(a:DW w):cW w=some w:=by
 have hlim:lim=268435456:=rfl;have c:=a.1;have e:=a.2
 grind[cW,vk,Ir,yR,BK,BJ,AB,B8,yQ,BL,AV]
theorem SM{w:A0}(a:DW w):dN w=some w:=by
 have hlim:lim=268435456:=rfl;have c:=a.1;have e:=a.2
 grind[dN,vk,Ir,y6,BK,BJ,AB,B8,y5,BL,AV]
theorem AKQ{c:Ab}(a:FJ c):AG4 c=some c:=by
 unfold AG4;rw[AZJ a.1,AB,SN a.2,AB]
theorem AKP{c:Ab}(a:FJ c):AHS c=some c:=by
 unfold AHS VI;have:=a.1;rw[B8 (by unfold lim;omega),AB,SM a.2,AB]
theorem SL{l:List Int}(a:l.length<=1048576):Jh l=some l:=by
 unfold Jh;rw[B8 (by unfold lim;omega)]
theorem vj{F:(Int×AE->AA AE)->Int×AE->AA AE}{h:AE}(e:B0 h)
 (step:∀L i (hi:i<h.AH.length) (v:AE),v.AH.length=i->F L ((i:Int),v)=L (w64 ((i:Int)+1),⟨v.AQ,v.Now,v.Az,v.AG,v.AH++[h.AH[i]],v.BF,v.BC⟩)) (stop:∀L v,F L ((h.AH.length:Int),v)=some v):A3 F big (0,⟨h.AQ,h.Now,h.Az,h.AG,[],h.BF,h.BC⟩)=some h:=by
 have g:=e.EU;refine C1 (n:=h.AH.length) (fun i (v:AE)=>((i:Int),v)) (fun i v=>v=⟨h.AQ,h.Now,h.Az,h.AG,h.AH.take i,h.BF,h.BC⟩) (fun _ _=>some h) (by omega) ?_ (v:=⟨h.AQ,h.Now,h.Az,h.AG,[],h.BF,h.BC⟩) (by simp);intro L i v c hi j;rcases AZ i h.AH.length with a|a
 .rw[step L i a v (by rw[c];simp;omega),Bt a (by omega)]
  grind[List.take_add_one]
 .obtain rfl:i=h.AH.length:=by omega
  rw[stop,c,Du]
theorem HN{h:AE}(a:B0 h):Mz h=some h:=by
 have hlim:lim=268435456:=rfl;have c:=a.Dw;have p1:=a.CP;have p2:=a.todo;have p3:=a.GM;have p4:=a.EU;have e:0+h.AG.length<=lim:=by omega
 have g:0+h.BF.length<=lim:=by omega
 have j:0+h.BC.length<=lim:=by omega
 unfold Mz;simp only[nc c,AB,B8 e,B8 g,B8 j,AFv,B9,KL,J4,C7,CT,yS,LK,yT,cX,Cz,mA,Od,XK,MZ,Ma,mC,mB,cY,mE,XL,XN,XM,XO,mG,mF,mD,Ht,mJ,XP,XR,XQ,XS,mL,mK,mI,SS,XT,XU,mP,mO,mN,mT,XV,mS,mR,mW,mV,mU,mQ,mM,mH];refine vj a ?_ ?_
 .intro L i hi v q;unfold XW;dsimp only;rw[B4 hi,BK,BJ hi,AB,AKQ (a.D1 _ (Au hi)),AB,B8 (by rw[Li];omega)]
 grind[XW,mX,BL,AV]
theorem GX{h:AE}(a:B0 h):M0 h=some h:=by
 have hlim:lim=268435456:=rfl;have c:=a.Dw;have p1:=a.CP;have p2:=a.todo;have p3:=a.GM;have p4:=a.EU;have e:0+h.AG.length<=lim:=by omega
 unfold M0;simp only[na c,AB,B8 e,SL p2,SL p3,Ce,Ki,Kj,Kk,Kl,J4,Km,Kn,KL,Hm,JM,LW,MX,QV];refine vj a ?_ ?_
 .intro L i hi v g;unfold dO;dsimp only;rw[B4 hi,BK,BJ hi,AB,AKP (a.D1 _ (Au hi)),AB,B8 (by rw[Li];omega)]
 grind[dO,y7,BL,AV]
theorem IU{e:A7}(a:Cf e):TE e=some e:=by
 have hlim:lim=268435456:=rfl;have:=a.laid;have g:0+e.Laid.length<=lim:=by omega
 unfold TE;simp only[HN a.FN,AB,B8 g,Ce,Ki,Kj,Kk,Kl,J4,Km,Kn,KL,Hm,JM,LW,MX,QV,B9]
theorem Mw{e:A7}(a:Cf e):Y6 e=some e:=by
 have hlim:lim=268435456:=rfl;have:=a.laid;unfold Y6;rw[GX a.FN,AB,B8 (by omega)]
def H8(a:Bl)(s:List UInt8):Bl×Bool:=if H9 a=true/\(a.Data.length:Int)+s.length<=20000 then (⟨a.Data++s,a.Safe⟩,true) else (a,false)
theorem SI{a:Bl}:H9 a=true↔(a.Data.length:Int)<=20000/\0<=a.Safe/\a.Safe<=a.Data.length:=by
 grind[H9,CQ]
theorem R5{a:Bl}{s:List UInt8}(c:s.length<=4000):dK a s=some (H8 a s):=by
 grind[OE,dK,dL,H8,HZ,AB,BB,AV,H9,Ah,B8,BQ]
theorem ZI{a:Bl}{s:List UInt8}(c:a.Data.length<=1048576)(e:s.length<=4000):dQ a s=some (H8 a s):=by
 grind[OE,dQ,dR,H8,B8,HX,AB,AV,BK,SI,BL]
def sj(e:A7)(q:Bp):A7×Int:=
 if FF e=false then (e,21) else if KN q=false then (e,22) else if e.Seq=1000000 then (e,23) else if e.Laid.length=8\/(H8 e.Bg.Log (frB (w64 (e.Seq+1)) (Gn q))).2=false then (e,24)
 else (⟨e.A2,⟨(H8 e.Bg.Log (frB (w64 (e.Seq+1)) (Gn q))).1,e.Bg.EZ,e.Bg.Odd⟩,w64 (e.Seq+1),e.Laid++[q]⟩,0)
theorem AUo{e:A7}(a:Cf e)(q:Bp):AHR e q=some (sj e q):=by
 have hlim:lim=268435456:=rfl;have g:=a.laid;have c:=AOe (w64 (e.Seq+1)) (Gn q);unfold AHR sj;simp only[IU a,Hw a,j7,ACW,R5 (Aw c (by omega):(frB (w64 (e.Seq+1)) (Gn q)).length<=4000),AB,Ce,Ki,Kj,Kk,Kl,J4,Km,Kn,KL,Hm,JM,LW,MX,QV,BB,AV];unfold dM;rw[BB,BK,B8 (by rw[Li];omega)];cases FF e with
 |false=>rfl|true=>
  cases KN q with
  |false=>rfl|true=>
   simp only[BK,B7,beq_iff_eq]
   grind
theorem ASW{e:A7}(a:Cf e)(q:Bp):AHT e q=some (sj e q):=by
 have hlim:lim=268435456:=rfl;have g:=a.laid;have c:=AOe (w64 (e.Seq+1)) (Gn q);unfold AHT sj;simp only[Mw a,JH a,iY,ABO,ZI a.log (Aw c (by omega):(frB (w64 (e.Seq+1)) (Gn q)).length<=4000),AB,Ce,Ki,Kj,Kk,Kl,J4,Km,Kn,KL,Hm,JM,LW,MX,QV,BB]
 grind[B8,B7]
theorem AC9{e:A7}(h:FF e=true):D8 e.A2=true/\NP e.Bg=true/\e.Laid.length<=8/\((e.Laid.length:Int)<=e.Seq/\e.Seq<=1000000)/\e.Laid.all KN=true:=by
 grind[FF,CQ]
theorem Yv{a:Bl}{s:List UInt8}(c:a.Data.length<=1048576):(H8 a s).1.Data.length<=1048576:=by
 grind[H8]
theorem ASi{e:A7}(a:Cf e)(q:Bp):Cf (sj e q).1:=by
 unfold sj;split
 .exact a
 .rename_i c;rw[Bool.not_eq_false]at c;have g:=AC9 c;split
  .exact a
  .split
   .exact a
   .split
    .exact a
    .exact⟨a.FN,Yv a.log,a.even,a.odd,by dsimp only;rw[AP,List.length_singleton];omega⟩
theorem AW6(q:Bp):AYB q=some q:=rfl
end Lv.P
