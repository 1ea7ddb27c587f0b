/- Plain laws about what the program computes. -/
import Derived.Test.YtdmpkjjlnjchkaaGreatPG5
import Derived.Test.YtdmpkjjlnjchkaaGreatPK5
set_option linter.unusedVariables false
set_option linter.unusedSimpArgs false
set_option linter.unusedSectionVars false
open Bool renaming and_eq_true->AF,and_true->Cd,not_true->Br
open Int renaming eq_ofNat_of_zero_le->Ab
open List renaming getElem_mem->Am,length_append->AM,length_cons->AH,mem_append->Cb,mem_cons->Ag,mem_iff_getElem->DF,not_mem_nil->EE
open Nat renaming lt_or_ge->AT
namespace Lv.P
open Lv Go
theorem AXo(a:Int):0<=pP a 255/\pP a 255<=255:=by
 unfold pP;have e:(BitVec.ofInt IntKind.i64.bits 255).toNat=255:=rfl
 grind[BitVec.toNat_and,BitVec.ofInt,Nat.and_le_right,bE]
theorem yI(s:List UInt8):WY s=some (decide ((s.length:Int)>1048576)):=rfl
def CI(c:AX):Prop:=0<=c.i_/\c.i_<=c.b_.length/\c.b_.length<=1048576
theorem Agd{s:List UInt8}(a:s.length<=1048576):∃c,fP s=some c/\CI c:=by
 unfold fP;refine Hl (n:=s.length) (fun i (v:Int)=>(v,(i:Int))) (fun _ _=>True) CI (by omega) ?_ trivial;intro L i v _ hi e;unfold Asx Tl BKf;dsimp only;simp only[AR,dec_lt];rcases AT i s.length with h|h
 .rw[decide_eq_true h,BH,BA,A7 h,AB,BU h (by omega)];split
  .exact e _ trivial h
  .exact⟨_,rfl,by simp,by simp,a⟩
 .rw[decide_eq_false (by omega),BN,BN];exact⟨_,rfl,by simp,by simp,a⟩
theorem ADD{c:AX}(j:CI c):∃r,fQ c=some r/\0<=r.1/\r.1<=255/\CI r.2:=by
 obtain⟨a,g,e⟩:=j;unfold fQ Tm;rw[BA];obtain⟨i,hi⟩:=Ab a;split
 .rename_i h;rw[hi,A7 (by omega),AB,AR];have:=AXo (w64 (pP (bN (Dx (w64 (w64 (c.h_*6364136223846793005)+1442695040888963407)) 33) (Dx (w64 (w64 (c.h_*6364136223846793005)+1442695040888963407)) 45)) 255+w64 (↑(UInt8.toNat c.b_[i]):Int)));refine⟨_,rfl,this.1,this.2,?_⟩;rw[Ai (n:=(i:Int)+1) (by omega) (by omega)];exact⟨by dsimp only;omega,by dsimp only;omega,e⟩
 .rw[AR];have:=AXo (bN (Dx (w64 (w64 (c.h_*6364136223846793005)+1442695040888963407)) 33) (Dx (w64 (w64 (c.h_*6364136223846793005)+1442695040888963407)) 45));exact⟨_,rfl,this.1,this.2,a,g,e⟩
theorem zi{a n:Int}(c:0<=a)(e:0<n):0<=Int.tmod a n/\Int.tmod a n<n:=by
 rw[Int.tmod_eq_emod_of_nonneg c];exact⟨Int.emod_nonneg _ (by omega),Int.emod_lt_of_pos _ e⟩
theorem CQ{c:AX}(q:CI c)(n:Int):∃r,nE c n=some r/\0<=r.1/\(n<=0->r.1=0)/\(0<n->r.1<n)/\CI r.2:=by
 unfold nE;rw[BA];by_cases y:n<=0
 .rw[if_pos y];exact⟨_,rfl,by simp,by simp,by omega,q⟩
 rw[if_neg y,BA];split
 .obtain⟨r,e,S,h2,h3⟩:=ADD q;rw[e,AB,B9 (by omega)];have:=zi S (show 0<n by omega)
  grind
 .obtain⟨g,J,X,Z,E⟩:=ADD q;obtain⟨h,L,Y,b2,G⟩:=ADD E;obtain⟨j,O,a3,b3,H⟩:=ADD G;obtain⟨B,Q,a4,b4,I⟩:=ADD H;rw[J,AB,L,AB,O,AB,Q,AB,B9 (by omega)];rw[Ai (n:=g.1*16777216) (by omega) (by omega),Ai (n:=h.1*65536) (by omega) (by omega),Ai (n:=j.1*256) (by omega) (by omega)];rw[Ai (n:=g.1*16777216+h.1*65536) (by omega) (by omega),Ai (n:=g.1*16777216+h.1*65536+j.1*256) (by omega) (by omega),Ai (n:=g.1*16777216+h.1*65536+j.1*256+B.1) (by omega) (by omega)];have:=zi (a:=g.1*16777216+h.1*65536+j.1*256+B.1) (by omega) (show 0<n by omega);exact⟨_,rfl,this.1,by omega,fun _=>this.2,I⟩
theorem HV{c:AX}(a:CI c){l:List Int}(g:l≠[]):∃r,AQk c l=some r/\CI r.2/\r.1∈l:=by
 unfold AQk;have B:0<l.length:=by cases l with|nil=>exact absurd rfl g|cons=>simp
 obtain⟨r,e,h,j,q,y⟩:=CQ a (l.length:Int)
 grind[Int.eq_ofNat_of_zero_le,AB,A7,List.getElem_mem]
theorem APp{c:AX}(e:CI c):∃r,AQj c=some r/\r.1.AV.length<=3/\Dp r.1=true/\CI r.2:=by
 unfold AQj;obtain⟨r1,j,X,Y,a,g⟩:=CQ e 5;obtain⟨r2,e2,a2,b2,B,Z⟩:=CQ g 9;obtain⟨r3,e3,a3,b3,E,c3⟩:=CQ Z 6;obtain⟨r4,e4,a4,b4,G,c4⟩:=CQ c3 5;obtain⟨r5,e5,a5,b5,H,c5⟩:=CQ c4 4;obtain⟨r6,e6,a6,b6,I,c6⟩:=CQ c5 4;obtain⟨r7,e7,a7,b7,J,c7⟩:=CQ c6 4;obtain⟨r8,e8,a8,b8,O,c8⟩:=CQ c7 3;obtain⟨q,e9,a9,b9,d9,c9⟩:=CQ c8 3;simp only[j,e2,e3,e4,e5,e6,e7,e8,e9,AB];have a:=a (by omega);have B:=B (by omega);have E:=E (by omega);have G:=G (by omega);have H:=H (by omega);have I:=I (by omega);have J:=J (by omega);have O:=O (by omega);have h9:=d9 (by omega);obtain⟨n,hn⟩:=Ab (show 0<=1+q.1 by omega);refine Hl (n:=n) (fun i (v:AX×AZ)=>((i:Int),v.1,v.2)) (fun i v=>CI v.1/\∃ss:List Int,v.2=⟨ss,w64 (1+r1.1),w64 (2+r2.1),w64 (1+r3.1),w64 (1+r4.1),w64 (1+r5.1),r6.1,w64 (1+r7.1),w64 (1+r8.1)⟩/\ss.length=i/\∀x∈ss,2<=x/\x<=13) _ (by omega) ?_ (v:=(q.2,_)) ⟨c9,[],rfl,rfl,by simp⟩;rintro L i ⟨c,r⟩ ⟨e,ss,Q,hs,hx⟩ hi S;unfold Ayo Ayl;dsimp only at e Q S ⊢;subst Q;rw[Ai (n:=1+q.1) (by omega) (by omega),hn,dec_lt];rcases AT i n with h|h
 .obtain⟨y,j,X,Y,a,g⟩:=CQ e 12;have a:=a (by omega);rw[decide_eq_true h,BH,j,AB,B9 (by simp only[AH,List.length_nil];unfold lim;omega),BU h (by omega)];refine S (_,_) ⟨g,_,rfl,by simp[hs],?_⟩ h
  grind[List.mem_singleton,Ai]
 .rw[decide_eq_false (by omega),BN,AR]
  grind[Dp,CY,List.all_eq_true,Ai]
def Nk(h:AD):Prop:=-9223372036854775808<=h.Now/\h.Now<9223372036854775808
def AUa(r:AZ)(n:Nat)(h:AD):Prop:=h.AI.length<=h.AO.AV.length/\h.AI.length<=r.AV.length/\h.AO.AV.length<=1048576/\h.AG.length<=n/\h.BC.length<=n/\h.A8.length<=3/\(∀c∈h.AI,DI c)/\1<=h.AI.length/\Nk h
theorem AaW{h:AD}(q:DR h=true):∀n∈GH h,okN n:=by
 have e:=RG q;have I:=J0 q;have hR:=CT e.rules;have y:=NF h.AO;rw[yc];intro n a;unfold okN;simp only[Ag,Cb,List.mem_flatMap,List.mem_map]at a;rcases a with rfl|a|rfl|rfl|rfl|⟨p,L,a⟩|⟨c,E,rfl⟩|rfl|a|⟨j,H,rfl⟩
 .omega
 .unfold LO at a;simp only[Ag,Cb,EE,or_false]at a;rcases a with (rfl|rfl|rfl|rfl|rfl|rfl|rfl|rfl)|a
  all_goals first|omega|skip
  have:=hR.2.2.2.2.2.1 n a;omega
 .omega
 .omega
 .omega
 .obtain⟨i,hi,rfl⟩:=DF.1 L;have O:=FM (e.par i hi);unfold Ma at a;simp only[Ag,EE,or_false]at a;have G:=Ai (n:=h.AG[i].Bl+1) (by omega) (by omega);rw[G]at a;omega
 .obtain⟨i,hi,rfl⟩:=DF.1 E;have B:i<h.AO.AV.length:=by rw[<-e.EG];exact hi
  have hD:h.AO.AV.getD i 0=h.AO.AV[i]:=by simp[List.getD,B]
  have g:=(e.cab i hi).2;have Q:=hR.2.2.2.2.2.1 _ (Am B);rw[hD]at g;omega
 .have:=e.todo;have:=e.Dd;omega
 .obtain⟨i,hi,rfl⟩:=DF.1 a;have g:=KD.1 I.2.2.2.2.2.2.1 i hi;unfold WH at g;have J:=e.EG;have:=e.Dd;rw[Cc hi,AF,CY,Ai (by omega) (by omega)]at g;omega
 .have:=e.job j H;unfold up;rw[Ai (by omega) (by omega)];omega
theorem ANg(l:List AK):(l.flatMap Ma).length=10*l.length:=by
 induction l with
 |nil=>rfl|cons p l a=>rw[List.flatMap_cons,AM,a,AH];show 10+_=_;omega
theorem AaV{h:AD}(c:DR h=true):16<=(GH h).length:=by
 have a:=RG c;have e:=NF h.AO;have g:=a.Dd;have j:=a.EG;have q:=a.Wm;have y:=a.AiQ;rw[yc];simp only[AH,AM,List.length_map,ANg];omega
theorem AcM{h:AD}(a:DR h=true){q:Int}(c:inB q 0 1000000=true):IS h q=four ((LI (pL (q::GH h)):Nat):Int)++pL (q::GH h):=by
 unfold IS;rw[if_pos ⟨a,c⟩]
theorem AMk{h:AD}(c:DR h=true){q:Int}(e:inB q 0 1000000=true):∀n∈q::GH h,okN n:=by
 intro n a;rw[CY]at e;rcases Ag.1 a with rfl|a
 .unfold okN;omega
 .exact AaW c n a
theorem AW9{h:AD}(a:DR h=true){q:Int}(c:inB q 0 1000000=true):(IS h q).drop 4=pL (q::GH h)/\20<=(IS h q).length:=by
 rw[AcM a c];have e:=Aan (AMk a c);have g:=AaV a;refine⟨List.drop_left' (HM _),?_⟩;rw[AM,HM];simp only[AH]at e;omega
theorem AXA{h:AD}(a:DR h=true)(j:Bp h){q:Int}(g:inB q 0 1000000=true):AAx (IS h q)=some (h,q,true):=by
 have G:=J3 h q;obtain⟨c,E⟩:=AW9 a g;obtain⟨r,_,e,B⟩:=Rq (s:=IS h q) (by omega);rw[e,B.all h q a j ?_ rfl (by omega)];have y:(pL (q::GH h)).length<=(IS h q).length:=by rw[<-c,List.length_drop];omega
 rw[c];exact AFx _ _ (AMk a g) (by omega)
theorem APV(l:List Ad):Eb eqE l l=true:=(IK ou).2 rfl
theorem APW(l:List A6):Eb eqP l l=true:=(IK oz).2 rfl
theorem ADc(x:Int):(x==x)=true:=beq_self_eq_true x
theorem APY{r:AZ}(a:r.AV.length<=1048576):AAz r r=some true:=by
 unfold AAz BHC;simp only[Jv (show r.AV.length<2 ^ 62 by omega),Uf.2,AB,ADc,BH,AR]
theorem APZ{w:An}(a:C1 w)(c:HE w=true):AHq w w=some true:=by
 unfold AHq BJg;have e:=Io a;simp only[HU a,c,N6 a,TL (show (Eo w).length<2 ^ 62 by omega),APW,AB,BH,AR]
theorem APX{c:AY}(e:DI c)(a:Mg c=true):XA c c=some true:=by
 have g:HE c.Bw=true:=by
  unfold Mg at a;simp only[AF]at a;exact a.2.2
 have h:=e.1;unfold XA BI8;simp only[PL e,a,ADc,Cd,WC (show c.Row.length<2 ^ 62 by omega),APV,APZ e.2 g,AB,BH,AR]
theorem zE{h:AD}(a:Bp h)(j:DR h=true):AQf h h=some true:=by
 have q:=a.Dd;have E:=a.CS;have G:=a.EG;have H:=a.todo;have I:=a.F4;unfold AQf A9Z;simp only[GW a,j,APY q,Jv (show h.BC.length<2 ^ 62 by omega),Jv (show h.A8.length<2 ^ 62 by omega),Uf.2,ne_self,AB,Br,BN,AR];have y:BAt h h ()=some true:=by
  unfold BAt;have key:=iR (n:=h.AI.length) (F:=BJR h h) (by omega) ?_ ?_
  .rw[ne_self,BN]at key;exact key
  .intro L i hi;have e:Mg h.AI[i]=true:=by
    have c:=KD.1 (J0 j).2.2.2.2.2.2.2.2.2 i hi;unfold eJ at c;rw[Cc hi]at c;unfold Ki at c;simp only[AF]at c;exact c.2.1.1
   unfold BJR;rw[CC hi,BH,A7 hi,AB,AB,APX (a.De _ (Am hi)) e,AB,BI,BH]
  .intro L;unfold BJR BJ6;rw[Cp,BN,AR]
 rw[<-y];refine(C6 (n:=h.AG.length) (fun i (_:Unit)=>(i:Int)) (fun _ _=>True) (fun _ _=>BAt h h ()) (by omega) ?_ (v:=()) trivial);intro L i _ _ hi B;unfold BJq;rcases AT i h.AG.length with g|g
 .rw[CC g,BH,A7 g,AB,AB,BU g (by omega)];simp only[ADc,Cd,Br,BN];exact B () trivial g
 .obtain rfl:i=h.AG.length:=by omega
  rw[Cp,BN,AR]
theorem APc:AAx []=some (MI,0,false):=rfl
theorem AUa.fit{r:AZ}(c:Dp r=true){h:AD}(e:AUa r 0 h):Bp h:=by
 obtain⟨g,j,a3,a4,q,y,a,B,E⟩:=e;have G:=CT c;exact⟨a3,by omega,by omega,a,by omega,by omega⟩
end Lv.P
