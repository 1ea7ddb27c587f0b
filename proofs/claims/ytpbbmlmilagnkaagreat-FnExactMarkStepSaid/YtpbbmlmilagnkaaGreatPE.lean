/- Plain laws about what the program computes. -/
import Derived.Test.YtpbbmlmilagnkaaGreatPD
noncomputable section
set_option linter.unusedVariables false
set_option linter.unusedSimpArgs false
set_option linter.unusedSectionVars false
open Int renaming toNat_natCast->AU
open List renaming append_assoc->Bg,append_cancel_left->Fm,append_inj->Hq,drop_eq_nil_of_le->A1,drop_left'->B7,drop_zero->CH,getElem_mem->BH,length_append->AO,length_cons->AM,length_drop->A9,length_nil->AQ,length_take->BQ,nil_append->B1,take_append->Hg,take_left'->CK,take_length->Hh,take_of_length_le->As,take_prefix->Fq
open Nat renaming lt_or_ge->AY
open Option.some renaming injEq->AB
open Prod.mk renaming injEq->Ag
namespace Lv.P
open Go (IntKind BinOp UnOp)
theorem Nr{w pre l:List UInt8}{n:Nat}{i:Int}(hw:w=pre++(EA n++l))(hi:i=pre.length)(hn:n<=2147483647):gN w i=((n:Int),((pre.length+(EA n).length:Nat):Int),true):=by
 subst hw;subst hi;have:=GJ n;unfold gN;rw[if_pos (by simp only[AO];omega),AU,List.drop_left,gl 5 0 0 n l (Hp hn) (.inl rfl) (by simpa using hn)];simp[dg]
theorem de{w:List UInt8}{i n j:Int}(h:gN w i=(n,j,true)):∃(m:Nat) (l:List UInt8),0<=i/\i<w.length/\w.drop i.toNat=EA m++l/\n=(m:Int)/\j=i+(EA m).length/\m<=2147483647:=by
 unfold gN at h;split at h
 .rename_i hi;cases hr:rdN 5 0 0 (w.drop i.toNat) with
  |none=>rw[hr]at h;simp[dg]at h|some x=>
   obtain⟨N,k⟩:=x;rw[hr]at h;simp only[dg,Ag]at h;obtain⟨m,l,h1,h2,h3,_,h5⟩:=Ud _ _ _ _ _ _ hr;simp at h2;refine⟨m,l,hi.1,hi.2,h1,by omega,by omega,by omega⟩
 .simp at h
theorem da{q:Int}{b:List UInt8}(h:MT q b):frB q b=EA (frT q b).length++(four ((Hv (pN q++b):Nat):Int)++(EA q.toNat++b))/\frT q b=four ((Hv (pN q++b):Nat):Int)++(EA q.toNat++b):=by
 have hT:=Kj h;have e:pN q=EA q.toNat:=by unfold pN;rw[if_pos (by have:=h.1;omega)]
 have e2:frT q b=four ((Hv (pN q++b):Nat):Int)++(EA q.toNat++b):=by unfold frT;rw[e]
 refine⟨?_,e2⟩;unfold frB;rw[if_pos h,<-e2];have e3:pN ((frT q b).length:Int)=EA (frT q b).length:=by unfold pN;rw[if_pos (by omega),AU]
 rw[e3]
theorem AIk{q q':Int}{b b' d:List UInt8}(h:MT q b)(h':MT q' b')(hp:frB q b <+: d)(hp':frB q' b' <+: d):q=q'/\b=b':=by
 obtain⟨r,rfl⟩:=hp;obtain⟨r',hr⟩:=hp';obtain⟨e1,e2⟩:=da h;obtain⟨e1',e2'⟩:=da h';have hT:=Kj h;have hT':=Kj h';rw[e1,e1',<-e2,<-e2',Bg,Bg]at hr;have g1:=Nr (w:=EA (frT q b).length++(frT q b++r)) (pre:=[]) (i:=0) rfl rfl (by omega:(frT q b).length<=2147483647);have g2:=Nr (w:=EA (frT q b).length++(frT q b++r)) (pre:=[]) (i:=0) (l:=frT q' b'++r') (by rw[<-hr];rfl) rfl (by omega:(frT q' b').length<=2147483647);rw[g1]at g2;have hl:(frT q b).length=(frT q' b').length:=by have:=congrArg Prod.fst g2;simp at this;omega
 rw[<-hl]at hr;have hr2:=Fm hr;have hr3:=(Hq hr2 (by omega)).1;rw[e2,e2']at hr3;have hr4:=(Hq hr3 (by rw[GQ,GQ])).2;have g3:=Nr (w:=EA q.toNat++b) (pre:=[]) (i:=0) rfl rfl (by have:=h.1;omega:q.toNat<=2147483647);have g4:=Nr (w:=EA q.toNat++b) (pre:=[]) (i:=0) (l:=b') (by rw[<-hr4];rfl) rfl (by have:=h'.1;omega:q'.toNat<=2147483647);rw[g3]at g4;have hq:q.toNat=q'.toNat:=by have:=congrArg Prod.fst g4;simp at this;omega
 rw[<-hq]at hr4;have:=h.1;have:=h'.1;exact⟨by omega,(Fm hr4).symm⟩
def qT(d:List UInt8)(i:Int):CN×Bool:=
 open Classical in if h:∃x:Int×List UInt8,MT x.1 x.2/\frB x.1 x.2 <+: d then (⟨h.choose.1,h.choose.2,i+(frB h.choose.1 h.choose.2).length⟩,true) else (⟨0,[],0⟩,false)
theorem AIl{q:Int}{b d:List UInt8}{i:Int}(h:MT q b)(hp:frB q b <+: d):qT d i=(⟨q,b,i+(frB q b).length⟩,true):=by
 unfold qT;have hx:∃x:Int×List UInt8,MT x.1 x.2/\frB x.1 x.2 <+: d:=⟨(q,b),h,hp⟩;rw[dif_pos hx];obtain⟨h1,h2⟩:=hx.choose_spec;obtain⟨e1,e2⟩:=AIk h h1 hp h2;rw[<-e1,<-e2]
theorem bV{d:List UInt8}{i:Int}(h:∀q b,MT q b->¬frB q b <+: d):qT d i=(⟨0,[],0⟩,false):=by
 unfold qT;rw[dif_neg];rintro⟨⟨q,b⟩,h1,h2⟩;exact h q b h1 h2
theorem PT(d:List UInt8)(i:Int):(∃q b,MT q b/\frB q b <+: d/\qT d i=(⟨q,b,i+(frB q b).length⟩,true))\/((∀q b,MT q b->¬frB q b <+: d)/\qT d i=(⟨0,[],0⟩,false)):=by
 by_cases h:∃q b,MT q b/\frB q b <+: d
 .obtain⟨q,b,h1,h2⟩:=h;exact .inl ⟨q,b,h1,h2,AIl h1 h2⟩
 .have h2:∀q b,MT q b->¬frB q b <+: d:=fun q b h1 h2=>h ⟨q,b,h1,h2⟩
  exact .inr ⟨h2,bV h2⟩
def RE(s:List UInt8)(i:Int):CN×Bool:=if 0<=i/\i<=s.length then qT (s.drop i.toNat) i else (⟨0,[],0⟩,false)
@[simp] theorem nr(a b:Int):mo a b=some (if a<b then a else b):=by
 unfold mo;rw[BD];split<;>rfl
theorem AHS{p d:List UInt8}{n:Nat}(h:p <+: d)(hn:p.length<=n):p <+: d.take n:=by
 obtain⟨r,rfl⟩:=h;rw[Hg];exact⟨(r.take (n-p.length)),by rw[As hn]⟩
theorem c6(b:List UInt8):(b==[])=decide (b=[]):=by cases b<;>rfl
theorem iD{s:List UInt8}(hs:s.length<2 ^ 62)(i:Int):mq s i=some (RE s i):=by
 unfold mq RE;rw[fb,AE,BB,BD];by_cases hi:0<=i/\i<=(s.length:Int)
 rotate_left
 .rw[if_neg hi,if_neg hi]
 rw[if_pos hi,if_pos hi,nr,AE,Ao (by omega) (by omega)];generalize hx:(if (s.length:Int)<i+80 then (s.length:Int) else i+80)=x;have hx2:i<=x/\x<=(s.length:Int):=by split at hx<;>omega
 rw[CG ⟨hi.1,hx2⟩];unfold Qz W4 W5;have hW:(s.drop i.toNat).take (x.toNat-i.toNat)=(s.drop i.toNat).take 80:=by
  split at hx
  .rw[As (by rw[A9];omega),As (by rw[A9];omega)]
  .congr 1;omega
 rw[hW];generalize hd:s.drop i.toNat=d at *;have hdl:d.length=s.length-i.toNat:=by rw[<-hd,A9]
 generalize hw:d.take 80=w;have hwl:w.length<=80/\w.length<=d.length:=by rw[<-hw,BQ];omega
 rw[Kw (by omega) _ (by omega),AE];have hwd:w <+: d:=by rw[<-hw];exact Fq _ _
 rcases PT d i with ⟨q,b,hok,hp,he⟩|⟨hno,he⟩
 ·-- there is a frame
  have hl:=UW hok;obtain⟨r,hr⟩:=AHS (n:=80) hp (by omega);rw[hw]at hr;obtain⟨e1,e2⟩:=da hok;have hT:=Kj hok;have hq:=hok.1;have g1:gN w 0=(((frT q b).length:Int),(((EA (frT q b).length).length:Nat):Int),true):=by
   rw[Nr (w:=w) (i:=0) (pre:=[]) (n:=(frT q b).length) (l:=frT q b++r) (by rw[<-hr,e1,<-e2];simp) (by simp) (by omega)];simp
  have hm:=Hp (n:=(frT q b).length) (by omega);have hfl:(frB q b).length=(EA (frT q b).length).length+(frT q b).length:=by rw[e1,<-e2,AO]
  have hwl2:w.length=(frB q b).length+r.length:=by rw[<-hr,AO]
  generalize hM:(EA (frT q b).length).length=M at *;generalize hN:(frT q b).length=N at *;have hN2:N=4+(EA q.toNat).length+b.length:=by rw[<-hN,e2];simp[GQ];omega
  rw[g1];dsimp only;rw[BB,BL,Ao (n:=(w.length:Int)-M) (by omega) (by omega),BD,if_neg (by omega),decide_eq_false (by omega),AS,BN,Ao (n:=(M:Int)+4) (by omega) (by omega)];have g2:gN w ((M:Int)+4)=(q,((M+4+(EA q.toNat).length:Nat):Int),true):=by
   rw[Nr (pre:=EA N++four ((Hv (pN q++b):Nat):Int)) (n:=q.toNat) (l:=b++r) (by rw[<-hr,e1];simp) (by simp[GQ,hM]) (by omega)];simp[GQ,hM];omega
  rw[Kw (by omega) _ (by omega),AE,g2];dsimp only;rw[BB,BL,Ao (n:=(M:Int)+N) (by omega) (by omega),decide_eq_false (by omega),AS,BN,CG (by omega),CG (by omega)];have hb:((w.drop ((M+4+(EA q.toNat).length:Nat):Int).toNat).take (((M:Int)+N).toNat-((M+4+(EA q.toNat).length:Nat):Int).toNat))=b:=by
   have e3:w=(EA N++four ((Hv (pN q++b):Nat):Int)++EA q.toNat)++(b++r):=by rw[<-hr,e1];simp
   rw[AU,e3,B7 (by simp[GQ,hM];omega),CK (by omega)]
  have hf:((w.drop 0).take (((M:Int)+N).toNat-0))=frB q b:=by
   rw[CH,<-hr,CK (by omega)]
  rw[hb,hf,Rr,AE];have hne:(frB q b != frB q b)=false:=by simp
  have hbe:(b==[])=false:=by rw[c6];have:=hok.2;cases b<;>simp at this ⊢
  rw[hne,BN,AS,hbe,BN,he];have hfw:(((EA N).length:Nat):Int)=M:=by omega
  simp only[AB,Ag,and_true,CN.mk.injEq,true_and];rw[Ao (n:=i+M) (by omega) (by omega),Ao (by omega) (by omega)];omega
 ·-- there is none
  rw[he];rcases hg:gN w 0 with ⟨n,m,ok⟩;cases ok with
  |false=>dsimp only;simp only[BB,BN,BL,AS]|true=>
   obtain⟨n',l,h1,h2,h3,h4,h5,h6⟩:=de hg;have hn5:=Hp h6;have hwlen:w.length=(EA n').length+l.length:=by have:=congrArg List.length h3;simpa using this
   dsimp only;rw[BB,BL,Ao (n:=(w.length:Int)-m) (by omega) (by omega),BD];by_cases h7:n>(w.length:Int)-m
   .rw[if_pos h7];simp only[BL,AS]
   rw[if_neg h7,AS,BD];by_cases h8:n<5
   .rw[if_pos h8]
   rw[if_neg h8,Ao (n:=m+4) (by omega) (by omega),Kw (by omega) _ (by omega),AE];rcases hg2:gN w (m+4) with ⟨q,k,ok⟩;cases ok with
   |false=>dsimp only;simp only[BB,BN,BL,AS]|true=>
    obtain⟨q',l',g1,g2,g3,g4,g5,g6⟩:=de hg2;dsimp only;rw[BB,BL,Ao (n:=m+n) (by omega) (by omega),AS,BD];by_cases h9:k>m+n
    .rw[if_pos h9]
    rw[if_neg h9,CG (by omega),CG (by omega),Rr,AE,wV,CH,Nat.sub_zero];generalize hbb:List.take ((m+n).toNat-k.toNat) (List.drop k.toNat w)=bb;by_cases h10:frB q bb=List.take (m+n).toNat w
    .rw[if_pos h10];exfalso;have hne:frB q bb≠[]:=by
      rw[h10];intro h;have:=congrArg List.length h;rw[BQ]at this;simp only[AQ]at this;omega
     exact hno q bb (AED hne) (by rw[h10];exact(Fq _ _).trans hwd)
    .rw[if_neg h10];simp only[BL,AS]
theorem fK{s:List UInt8}(hs:s.length<2 ^ 62)(i:Int)(hi':i<2 ^ 62):mw s i=some (RE s i):=by
 unfold mw RE Mz;rw[Om,AE,AE,Ao (n:=(s.length:Int)-1) (by omega) (by omega),BB,BD];by_cases hi:0<=i/\i<=(s.length:Int)
 rotate_left
 .rw[if_neg (by omega),if_neg hi]
 rw[if_pos hi];by_cases hi2:i=(s.length:Int)
 .rw[if_neg (by omega)];congr 1;rw[bV];intro q b h1 h2;have hl:=UW h1;have:=h2.length_le;rw[A9]at this;omega
 rw[if_pos (by omega)];simp only[Bool.false_eq_true,if_false];rw[Ao (n:=i+5) (by omega) (by omega)];generalize hx:(if i+5<(s.length:Int) then i+5 else (s.length:Int))=x;have hx2:i<=x/\x<=(s.length:Int):=by split at hx<;>omega
 rw[CG ⟨hi.1,hx2⟩];unfold Q0 W8;have hW:(s.drop i.toNat).take (x.toNat-i.toNat)=(s.drop i.toNat).take 5:=by
  split at hx
  .congr 1;omega
  .rw[As (by rw[A9];omega),As (by rw[A9];omega)]
 rw[hW];generalize hd:s.drop i.toNat=d at *;have hdl:d.length=s.length-i.toNat:=by rw[<-hd,A9]
 generalize hw:d.take 5=w;have hwl:w.length<=5/\w.length<=d.length:=by rw[<-hw,BQ];omega
 rw[Km (by omega),AE];have hdr:∀m:Int,0<=m->i+m<=s.length->s.drop (i+m).toNat=d.drop m.toNat:=by
  intro m h0 h1;rw[<-hd,List.drop_drop];congr 1;omega
 rcases PT d i with ⟨q,b,hok,hp,he⟩|⟨hno,he⟩
 ·-- there is a frame
  have hl:=UW hok;obtain⟨r,hr⟩:=hp;obtain⟨e1,e2⟩:=da hok;have hT:=Kj hok;have hq:=hok.1;have hm:=Hp (n:=(frT q b).length) (by omega);have g1:gN w 0=(((frT q b).length:Int),(((EA (frT q b).length).length:Nat):Int),true):=by
   rw[Nr (w:=w) (i:=0) (pre:=[]) (n:=(frT q b).length) (l:=(frT q b++r).take (5-(EA (frT q b).length).length)) (by
    rw[<-hw,<-hr,e1,<-e2,Bg,Hg,As hm];rfl) (by simp) (by omega)];simp
  have hfl:(frB q b).length=(EA (frT q b).length).length+(frT q b).length:=by rw[e1,<-e2,AO]
  have hdl2:d.length=(frB q b).length+r.length:=by rw[<-hr,AO]
  generalize hM:(EA (frT q b).length).length=M at *;generalize hN:(frT q b).length=N at *;have hN2:N=4+(EA q.toNat).length+b.length:=by rw[<-hN,e2];simp[GQ];omega
  rw[g1];dsimp only;rw[BB,BL,BD,if_neg (by omega),Ao (n:=(s.length:Int)-i) (by omega) (by omega),Ao (n:=(s.length:Int)-i-M) (by omega) (by omega),decide_eq_false (by omega),AS,BN];rw[Ao (n:=i+M) (by omega) (by omega),Ao (n:=i+M+N) (by omega) (by omega),CG (by omega),hdr _ (by omega) (by omega),AU];have hT2:(d.drop M).take ((i+M+N).toNat-(i+M).toNat)=frT q b:=by
   rw[<-hr,e1,<-e2,Bg,B7 hM,CK (by omega)]
  rw[hT2];have g2:gN (frT q b) 4=(q,((4+(EA q.toNat).length:Nat):Int),true):=by
   rw[Nr (pre:=four ((Hv (pN q++b):Nat):Int)) (n:=q.toNat) (l:=b) e2 (by simp[GQ]) (by omega)];simp[GQ];omega
  rw[Km (by omega),AE,g2];dsimp only;rw[BB,BL,CG (by omega)];have hb:((frT q b).drop ((4+(EA q.toNat).length:Nat):Int).toNat).take ((frT q b).length-((4+(EA q.toNat).length:Nat):Int).toNat)=b:=by
   rw[AU,hN,e2,<-Bg,B7 (by simp[GQ]),As (by omega)]
  have hf:((d).take ((i+M+N).toNat-i.toNat))=frB q b:=by
   rw[<-hr,CK (by omega)]
  rw[hb,RM,AE];have hne:(frB q b==[])=false:=by rw[c6];cases hh:frB q b with|nil=>rw[hh]at hl;simp at hl|cons=>rfl
  rw[hne,BN,CG (by omega),hf,AS];have hne2:(frB q b != frB q b)=false:=by simp
  rw[hne2,BN,he];simp only[AB,Ag,and_true,CN.mk.injEq,true_and];omega
 ·-- there is none
  rw[he];rcases hg:gN w 0 with ⟨n,m,ok⟩;cases ok with
  |false=>dsimp only;simp only[BB,BN,BL,AS]|true=>
   obtain⟨n',l,h1,h2,h3,h4,h5,h6⟩:=de hg;have hn5:=Hp h6;have hwlen:w.length=(EA n').length+l.length:=by have:=congrArg List.length h3;simpa using this
   dsimp only;rw[BB,BL,BD];by_cases h7:n<6
   .rw[if_pos h7];simp only[BL,AS]
   rw[if_neg h7,Ao (n:=(s.length:Int)-i) (by omega) (by omega),Ao (n:=(s.length:Int)-i-m) (by omega) (by omega),AS,BD];by_cases h8:n>(s.length:Int)-i-m
   .rw[if_pos h8]
   rw[if_neg h8,Ao (n:=i+m) (by omega) (by omega),Ao (n:=i+m+n) (by omega) (by omega),CG (by omega),hdr _ (by omega) (by omega)];generalize ht:(d.drop m.toNat).take ((i+m+n).toNat-(i+m).toNat)=t;have htl:t.length<=s.length:=by rw[<-ht,BQ,A9];omega
   rw[Km (by omega),AE];rcases hg2:gN t 4 with ⟨q,k,ok⟩;cases ok with
   |false=>dsimp only;simp only[BB,BN,BL,AS]|true=>
    obtain⟨q',l',g1,g2,g3,g4,g5,g6⟩:=de hg2;have hkl:k<=t.length:=by
     have:=congrArg List.length g3;rw[A9,AO]at this;omega
    dsimp only;rw[BB,BL,CG (by omega),RM,AE];generalize hbb:List.take (t.length-k.toNat) (List.drop k.toNat t)=bb;rw[c6,BD];by_cases h9:frB q bb=[]
    .rw[if_pos h9];simp only[BL,AS]
    rw[if_neg h9,CG (by omega),AS,wV];by_cases h10:frB q bb=List.take ((i+m+n).toNat-i.toNat) d
    .exfalso;exact hno q bb (AED h9) (by rw[h10];exact Fq _ _)
    .rw[if_neg h10]
theorem bU{s:List UInt8}{i:Int}(h:(RE s i).2=true):0<=i/\i+7<=(RE s i).1.Next/\(RE s i).1.Next<=s.length:=by
 unfold RE at h ⊢;split at h
 .rename_i hi;rw[if_pos hi];rcases PT (s.drop i.toNat) i with ⟨q,b,hok,hp,he⟩|⟨hno,he⟩
  .rw[he];have:=UW hok;have h2:=hp.length_le;rw[A9]at h2;dsimp only;omega
  .rw[he]at h;simp at h
 .simp at h
def frs:Nat->List UInt8->Int->List CN|0,_,_=>[]|f+1,s,i=>if (RE s i).2=true then (RE s i).1::frs f s (RE s i).1.Next else []
def IT(s:List UInt8):List CN:=frs (s.length+1) s 0
theorem db{s:List UInt8}(hs:s.length<=1048576){G:Int->AA (CN×Bool)}(hG:∀i:Int,0<=i->i<=s.length->G i=some (RE s i)){F:(List CN×Int->AA (List CN))->List CN×Int->AA (List CN)}
 (hF:∀L acc i,F L (acc,i)=bd (G i) fun x=>br (!x.2) (some acc) (gd (acc.length+[x.1].length<=lim) (L (acc++[x.1],x.1.Next)))) :
 ∀(f n:Nat) (acc:List CN) (i:Int),0<=i->i<=s.length->s.length<f+i->f<=n->(acc.length:Int)<=i->Aw F n (acc,i)=some (acc++frs f s i)
 |0,n,acc,i,h0,h1,h2,h3,h4=>by omega|f+1,0,acc,i,h0,h1,h2,h3,h4=>by omega|f+1,n+1,acc,i,h0,h1,h2,h3,h4=>by
  rw[DF,hF,hG i h0 h1,AE,BB];unfold frs;cases hx:(RE s i).2 with
  |false=>simp|true=>
   have hn:=bU hx;rw[BL,CG (by simp only[AM,AQ];unfold lim;omega),if_pos rfl];rw[db hs hG hF f n _ _ (by omega) hn.2.2 (by omega) (by omega) (by rw[AO,AM,AQ];omega)];simp
theorem pO{s:List UInt8}(hs:s.length<=1048576):y1 s=some (IT s):=by
 unfold y1 IT;have:=db hs (G:=mq s) (F:=W6 s) (fun i _ _=>iD (by omega) i) (fun L acc i=>by unfold W6;rfl) (s.length+1) big [] 0 (by omega) (by omega) (by omega) (by have:=MK;omega) (by simp);rw[this];simp
theorem ni{s:List UInt8}(hs:s.length<=1048576):yf s=some (IT s):=by
 unfold yf IT;have:=db hs (G:=mw s) (F:=Wb s) (fun i _ _=>fK (by omega) i (by omega)) (fun L acc i=>by unfold Wb;rfl) (s.length+1) big [] 0 (by omega) (by omega) (by omega) (by have:=MK;omega) (by simp);rw[this];simp
theorem zW:∀(f:Nat) (s:List UInt8) (i:Int),0<=i->i<=s.length->((frs f s i).length:Int)<=s.length-i
 |0,s,i,h0,h=>by simp[frs];omega|f+1,s,i,h0,h=>by
  unfold frs;split
  .rename_i hx;have hn:=bU hx;have:=zW f s (RE s i).1.Next (by omega) hn.2.2;rw[AM];omega
  .simp;omega
theorem Xa(s:List UInt8):(IT s).length<=s.length:=by
 have:=zW (s.length+1) s 0 (by omega) (by omega);unfold IT;omega
def pb(p:Int):Int->List CN->Int|r,[]=>r|r,f::l=>if f.Seq<=p then pb p f.Next l else r
theorem iG{x:B5}(hs:x.Log.Data.length<=1048576)(p:Int):y2 x p=some (pb p 0 (IT x.Log.Data)):=by
 unfold y2;rw[pO hs,AE];have hl:=Xa x.Log.Data;generalize IT x.Log.Data=l at *;refine Da (n:=l.length) (fun i (v:Int)=>(v,(i:Int))) (fun _ _=>True) (fun i v=>some (pb p v (l.drop i))) (by omega) ?_ trivial;intro L i v _ hi ih;unfold mu W7 mr;dsimp only;simp only[dec_lt,AS];rcases AY i l.length with h|h
 .rw[decide_eq_true h,BL,BK h,AE,AE,AE,AE,BD,Bc h (by omega),Dt h];unfold pb;by_cases hp:l[i].Seq<=p
  .rw[if_pos hp,if_pos hp,ih _ trivial h]
  .rw[if_neg hp,if_neg hp]
 .rw[decide_eq_false (by omega),BN,BN,A1 h];rfl
theorem fN{x:B5}(hs:x.Log.Data.length<=1048576)(p:Int):yg x p=some (pb p 0 (IT x.Log.Data)):=by
 unfold yg;rw[ni hs,AE];have hl:=Xa x.Log.Data;generalize IT x.Log.Data=l at *;refine Da (n:=l.length) (fun i (v:Int)=>(v,(i:Int))) (fun _ _=>True) (fun i v=>some (pb p v (l.drop i))) (by omega) ?_ trivial;intro L i v _ hi ih;unfold mO Wc;dsimp only;simp only[dec_lt,AS];rcases AY i l.length with h|h
 .rw[decide_eq_true h,BL,BK h,AE,AE,BD,Bc h (by omega),Dt h];unfold pb;by_cases hp:l[i].Seq<=p
  .rw[if_neg (by omega),if_pos hp,ih _ trivial h]
  .rw[if_pos (by omega),if_neg hp]
 .rw[decide_eq_false (by omega),BN,A1 h];rfl
theorem ALb{l:List Ac}(hl:l.length<=1048576):VJ l=some l:=UA (by unfold lim;omega)
theorem jX{F:(Int×Aq->AA Aq)->Int×Aq->AA Aq}{w:Aq}(hw:DE w)
 (step:∀L i (h:i<w.Ah.length) (v:Aq),v.Ah.length=i->F L ((i:Int),v)=L (w64 ((i:Int)+1),⟨v.Ah++[w.Ah[i]]⟩)) (stop:∀L v,F L ((w.Ah.length:Int),v)=some v):Aw F big (0,⟨[]⟩)=some w:=by
 have h1:=hw.1;refine Da (n:=w.Ah.length) (fun i (v:Aq)=>((i:Int),v)) (fun i v=>v=⟨w.Ah.take i⟩) (fun _ _=>some w) (by omega) ?_ (v:=⟨[]⟩) (by simp);intro L i v hv hi ih;rcases AY i w.Ah.length with h|h
 .rw[step L i h v (by rw[hv];simp;omega),Bc h (by omega)]
  grind[List.take_add_one]
 .obtain rfl:i=w.Ah.length:=by omega
  rw[stop,hv,Hh]
theorem SE{w:Aq}(hw:DE w):aV w=some w:=by
 have hlim:lim=268435456:=rfl;have h1:=hw.1;have h2:=hw.2
 grind[aV,jX,Im,mZ,BL,BK,AE,CG,mY,BN,AS]
theorem SD{w:Aq}(hw:DE w):bH w=some w:=by
 have hlim:lim=268435456:=rfl;have h1:=hw.1;have h2:=hw.2
 grind[bH,jX,Im,mf,BL,BK,AE,CG,me,BN,AS]
theorem AAl{c:Aa}(hc:Dl c):yq c=some c:=by
 unfold yq;rw[ALb hc.1,AE,SE hc.2,AE]
theorem AAk{c:Aa}(hc:Dl c):yu c=some c:=by
 unfold yu ADy;have:=hc.1;rw[CG (by unfold lim;omega),AE,SD hc.2,AE]
theorem UO{l:List Int}(hl:l.length<=1048576):IB l=some l:=by
 unfold IB;rw[CG (by unfold lim;omega)]
theorem jW{F:(Int×AH->AA AH)->Int×AH->AA AH}{h:AH}(hf:CU h)
 (step:∀L i (hi:i<h.Ap.length) (v:AH),v.Ap.length=i->F L ((i:Int),v)=L (w64 ((i:Int)+1),⟨v.AR,v.Now,v.A4,v.AK,v.Ap++[h.Ap[i]],v.BO,v.BP⟩)) (stop:∀L v,F L ((h.Ap.length:Int),v)=some v):Aw F big (0,⟨h.AR,h.Now,h.A4,h.AK,[],h.BO,h.BP⟩)=some h:=by
 have h1:=hf.H3;refine Da (n:=h.Ap.length) (fun i (v:AH)=>((i:Int),v)) (fun i v=>v=⟨h.AR,h.Now,h.A4,h.AK,h.Ap.take i,h.BO,h.BP⟩) (fun _ _=>some h) (by omega) ?_ (v:=⟨h.AR,h.Now,h.A4,h.AK,[],h.BO,h.BP⟩) (by simp);intro L i v hv hi ih;rcases AY i h.Ap.length with hc|hc
 .rw[step L i hc v (by rw[hv];simp;omega),Bc hc (by omega)]
  grind[List.take_add_one]
 .obtain rfl:i=h.Ap.length:=by omega
  rw[stop,hv,Hh]
theorem AAn{h:AH}(hf:CU h):ma h=some h:=by
 have hlim:lim=268435456:=rfl;have g0:=hf.FJ;have p1:=hf.Db;have p2:=hf.todo;have p3:=hf.K5;have p4:=hf.H3;have g1:0+h.AK.length<=lim:=by omega
 have g2:0+h.BO.length<=lim:=by omega
 have g3:0+h.BP.length<=lim:=by omega
 unfold ma;simp only[ABG g0,AE,CG g1,CG g2,CG g3,wN,B1,Mu,No,CV,Bs,mb,I4,mc,Wp,CM,aW,LY,SK,Jo,Jp,aY,aX,Wq,aa,SL,SN,SM,SO,af,ae,aZ,GU,aj,SP,SR,SQ,SS,aq,ak,ai,OS,SU,SV,aw,av,au,bB,SW,az,ay,bE,bD,bC,ax,ar,ag];refine jW hf ?_ ?_
 .intro L i hi v hv;unfold SX;dsimp only;rw[Bq hi,BL,BK hi,AE,AAl (hf.HW _ (BH hi)),AE,CG (by rw[K6];omega)]
 grind[SX,bF,BN,AS]
theorem AAm{h:AH}(hf:CU h):yv h=some h:=by
 have hlim:lim=268435456:=rfl;have g0:=hf.FJ;have p1:=hf.Db;have p2:=hf.todo;have p3:=hf.K5;have p4:=hf.H3;have g1:0+h.AK.length<=lim:=by omega
 unfold yv;simp only[ABF g0,AE,CG g1,UO p2,UO p3,C7,PL,PM,PN,PO,No,PQ,PR,Mu,Rz,O8,UD,R0,ZR];refine jW hf ?_ ?_
 .intro L i hi v hv;unfold Wt;dsimp only;rw[Bq hi,BL,BK hi,AE,AAk (hf.HW _ (BH hi)),AE,CG (by rw[K6];omega)]
 grind[Wt,mg,BN,AS]
theorem PG{e:Ay}(he:DU e):bG e=some e:=by
 have hlim:lim=268435456:=rfl;have:=he.laid;have g:0+e.Laid.length<=lim:=by omega
 unfold bG;simp only[AAn he.GR,AE,CG g,C7,PL,PM,PN,PO,No,PQ,PR,Mu,Rz,O8,UD,R0,ZR,B1]
theorem Uw{e:Ay}(he:DU e):mi e=some e:=by
 have hlim:lim=268435456:=rfl;have:=he.laid;unfold mi;rw[AAm he.GR,AE,CG (by omega)]
def Ip(a:B2)(s:List UInt8):B2×Bool:=if Ix a=true/\(a.Data.length:Int)+s.length<=20000 then (⟨a.Data++s,a.Safe⟩,true) else (a,false)
theorem AAe{a:B2}:Ix a=true↔(a.Data.length:Int)<=20000/\0<=a.Safe/\a.Safe<=a.Data.length:=by
 grind[Ix,Du]
theorem pK{a:B2}{s:List UInt8}(hs:s.length<=4000):yt a s=some (Ip a s):=by
 grind[LA,yt,Ws,Ip,JC,AE,BB,AS,Ix,Ao,CG,BD]
theorem na{a:B2}{s:List UInt8}(ha:a.Data.length<=1048576)(hs:s.length<=4000):yx a s=some (Ip a s):=by
 grind[LA,yx,Wv,Ip,CG,I6,AE,AS,BL,AAe,BN]
theorem jA{a:B2}{s:List UInt8}(ha:a.Data.length<=1048576):(Ip a s).1.Data.length<=1048576:=by
 grind[Ip]
end Lv.P
