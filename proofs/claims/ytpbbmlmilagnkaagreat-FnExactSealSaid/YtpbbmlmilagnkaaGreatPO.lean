/-
  Plain laws: worlds are compared, marked and hold the marks; new worlds.
-/
import Derived.Test.YtpbbmlmilagnkaaGreatPD
import Derived.Test.YtpbbmlmilagnkaaGreatPN
import Derived.Test.YtpbbmlmilagnkaaGreatPE
import Derived.Test.YtpbbmlmilagnkaaGreatPF
noncomputable section
set_option linter.unusedVariables false
set_option linter.unusedSimpArgs false
set_option linter.unusedSectionVars false
open Bool renaming not_true->Bi,true_and->CE
open List renaming getElem_mem->Am
open Nat renaming lt_or_ge->Aj
namespace Lv.P
open Go (IntKind BinOp UnOp)
structure Ox(w:EL):Prop where
 Vn:E2 w.Bs
 done:w.Lm.length<=1048576
 ATo:w.Hz.length<=1048576
 ids:∀r∈w.Hz,r.Ids.length<=1048576
theorem AHN{r:BK}(hr:r.Ids.length<=1048576):AEM r r=some true:=by
 grind[AEM,BV,T8,AF,BI,BW]
theorem cY{l:List BK}(hl:l.length<=1048576)(hp:∀x∈l,x.Ids.length<=1048576):Z9 l l=some true:=by
 unfold Z9;refine XJ (by omega) ?_ ?_
 .grind[aA,A3,BW,A5,AF,AHN,List.getElem_mem,BI]
 grind[aA,uD,BV,AW]
theorem AHQ{w:EL}(hw:Ox w):AEN w w=some true:=by
 have h1:=hw.done;unfold AEN;rw[RV hw.Vn,AF,BI,BW,w9 (by omega),AF,BI,BW,cY hw.ATo hw.ids,AF,BI,BW,ne_self,BV]
def ACs(k:Int)(r:BK)(k1:Int):Prop:=r.Code=k/\(0<=k/\k<=2 ^ 60)/\r.Ids.length<=1048576/\0<=k1/\E6 ARB (k+1) r.Ids k1
theorem xg{l:List BK}(hl:l.length<=1048576)(hf:∀r∈l,r.Ids.length<=1048576){k:Int}(h0:0<=k)(hb:k<=2 ^ 58) :
 ∃r,AEO l k=some r/\(E6 ACs k r.2 r.1/\r.2.length=l.length/\k<=r.1/\r.1<=k+2 ^ 50):=by
 have hs:=mF (l:=l) (cst:=fun r=>1+r.Ids.length) (m:=1048577) fun r hr=>by have:=hf r hr;omega
 unfold AEO;have key:=Ji (l:=l) (Q:=ACs) (F:=Te) (fun r=>1+r.Ids.length) (2 ^ 59) hl h0 (by omega) ?_ ?_
 .grind
 .intro L v k i h hv hx k0 kb;have hi:i<v.length:=by omega
  have ha:at? v (i:Int)=some l[i]:=by rw[H0];exact hx
  have hr:=hf _ (Am h);have e1:w64 (k+1)=k+1:=BP (by omega) (by omega);obtain⟨a,ea,a1,a2,a3,a4⟩:=US (l:=l[i].Ids) hr (k:=k+1) (by omega) (by omega);refine⟨a.1,⟨k,a.2⟩,?_,⟨rfl,⟨k0,by omega⟩,by dsimp only;omega,by omega,a1⟩,by omega,by push_cast;omega⟩;unfold Te uE;dsimp only
  grind[A3,BW,AF,AW,Int.toNat_natCast,NW,List.set_set,ALZ,DB]
 grind[Te,uF,BV,AW]
theorem xM{l:List BK}(hl:l.length<=1048576){k k':Int}(hc:E6 ACs k l k'):uG l k=some k':=by
 unfold uG;refine Jf hc hl ?_ ?_
 .rintro L i h k k1 ⟨hs,⟨k0,kb⟩,hr,k10,ca⟩;have e1:w64 (k+1)=k+1:=BP (by omega) (by omega);have hk:decide (k1<0)=false:=by rw[decide_eq_false_iff_not];omega
  unfold aB;dsimp only;rw[A3 h,BW];simp only[A5 h,AF,hs,ne_self,BV,e1,UG hr ca,hk]
 grind[aB,uH,BV,AW]
end Lv.P
namespace Lv.P
open Lv Go
def gn(a:D8):D8:=if Wz a=true then ⟨a.Data,a.Data.length⟩ else a
theorem AJX(a:D8):AE0 a=some (gn a):=by
 grind[AE0,ax,gn,Xc,AF,B5,AW]
theorem AHd(a:D8):AEc a=some (gn a):=by
 unfold AEc gn;rw[XM,AF,BI,B5];split<;>rfl
def Xa(e:Be):Be×List BK:=
 if H4 e=false then (e,[]) else (⟨(HB e.Laid e.BD).1,⟨gn e.CY.Log,e.CY.G1,e.CY.Odd⟩,e.Seq,[]⟩,(HB e.Laid e.BD).2)
theorem AJW{e:Be}(he:E2 e):AE1 e=some (Xa e):=by
 unfold AE1 Xa;rw[zK he,AF,RB he,AF,BI,B5];by_cases hb:H4 e=true
 .rw[if_pos hb,if_neg (by simp[hb]),gO he.FQ he.laid,AF,AJX,AF]
 grind[H4]
theorem lH{e:Be}(he:E2 e):wW e=some (Xa e):=by
 unfold wW Xa;rw[zJ he,AF,Q1 he,AF,BI,B5];by_cases hb:H4 e=true
 .rw[if_pos hb,if_neg (by simp[hb]),AHd,AF,eG he.FQ he.laid,AF]
 grind[H4]
theorem AC8(a:D8):(gn a).Data=a.Data:=by unfold gn;split<;>rfl
theorem AJL{e:Be}(he:E2 e):E2 (Xa e).1/\(Xa e).2.length<=1048576/\∀r∈(Xa e).2,r.Ids.length<=1048576:=by
 unfold Xa;split
 .grind
 .obtain⟨h1,h2,h3⟩:=QB e.Laid he.FQ;have hl:=he.laid;exact⟨⟨h1,by dsimp only;rw[AC8];exact he.log,he.even,he.odd,by simp⟩,by dsimp only;omega,fun r hr=>by have:=h3 r hr;omega⟩
theorem Xh{e:Be}(he:NC e):GU e=some true:=by
 unfold GU;obtain⟨x,ex,hx⟩:=gv he;rw[ex,AF,Bl];split
 .rfl
 have hs:=(hx.resolve_left (by omega)).2.2;obtain⟨hf,hr1,hr2⟩:=AJL hs;obtain⟨k',s,ps,cs,td,js,ld,em,⟨m1,m2⟩,mh⟩:=XU hf (k:=1) (by omega) (by omega);obtain⟨k2,s2,ps2,cs2,td2,js2,ld2,em2,⟨n1,n2⟩,_⟩:=XU hs (k:=1) (by omega) (by omega);obtain⟨q,eq,q1,q2,q3,q4⟩:=xg hr1 hr2 (k:=k') (by omega) (by omega);have hh:=xM (by omega) q1;have hk:decide (k'<0)=false:=by rw[decide_eq_false_iff_not];omega
 have hk2:decide (k2<0)=false:=by rw[decide_eq_false_iff_not];omega
 have hk3:decide (q.1<0)=false:=by rw[decide_eq_false_iff_not];omega
 have hE:=RV hf;have hR:=cY hr1 hr2;simp only[OW hs,AJW hs,lH hs,AF,hE,hR,BI,BW,AW,Bi];unfold Gn;rw[BV,OW hs,AF,RV hs,AF,BI,BW,em2,AF];dsimp only;rw[hk2,BV,hE,AF,BI,BW,hR,AF,AW];unfold FJ;rw[Bi,BV,em,AF];dsimp only;rw[eq,AF,mh _ rfl rfl rfl rfl rfl rfl,AF,hk,BV,hh,AF,hk3,BV,ne_self,BV,OW hs,AF,lH hs,AF,hE,AF,BI,BW,hR,AF,AW]
 grind[Gp,Bool.not_true,BV,AF]
end Lv.P
namespace Lv.P
open Lv Go
end Lv.P
namespace Lv.P
open Lv Go
def OP(a b:AV):Bool:=Du (·==·) a.AR b.AR&&(a.Cg==b.Cg&&(a.Room==b.Room&&(a.A1==b.A1&&(a.CA==b.CA&&(a.Bq==b.Bq&&(a.Rest==b.Rest&&(a.Cc==b.Cc&&a.Cu==b.Cu)))))))
theorem gV{a b:AV}(ha:a.AR.length<2 ^ 62):AEt a b=some (OP a b):=by
 unfold AEt Hn OP;rw[Lj ha,AF];simp only[AW,B7]
theorem eO{a b:AV}(ha:a.AR.length<2 ^ 62):AFq a b=some (OP a b):=by
 unfold AFq Hp OP;rw[LZ ha,AF];simp only[AW,B7]
def iD(a b:Ah):Bool:=FI a&&(FI b&&Du eqP (Dq a) (Dq b))
theorem gW{a b:Ah}(ha:DK a)(hb:DK b):AEu a b=some (iD a b):=by
 have h1:=HH ha;unfold AEu Ts iD;simp only[GY ha,GY hb,Li ha,Li hb,RD (show (Dq a).length<2 ^ 62 by omega),AF,AW,B7]
theorem eP{a b:Ah}(ha:DK a)(hb:DK b):AFs a b=some (iD a b):=by
 have h1:=HH ha;unfold AFs T5 iD;simp only[GW ha,GW hb,La ha,La hb,XO (show (Dq a).length<2 ^ 62 by omega),AF,AW,B7]
def ASx(a b:Av):Bool:=a.Total==b.Total&&(a.DJ==b.DJ&&(a.Dd==b.Dd&&(a.EK==b.EK&&(a.ET==b.ET&&true))))
def rX(a b:AS):Bool:=Lq a&&(Lq b&&(ASx a.AR b.AR&&(Du eqE a.Row b.Row&&iD a.BO b.BO)))
theorem gQ{a b:AS}(ha:Da a)(hb:Da b):AEv a b=some (rX a b):=by
 have h1:=ha.1;unfold AEv Ms rX ASx;simp only[OR ha,OR hb,Uy (show a.Row.length<2 ^ 62 by omega),gW ha.2 hb.2,AF,AW,B7]
theorem eK{a b:AS}(ha:Da a)(hb:Da b):AFS a b=some (rX a b):=by
 have h1:=ha.1;unfold AFS Mv rX ASx;simp only[N1 ha,N1 hb,XN (show a.Row.length<2 ^ 62 by omega),eP ha.2 hb.2,AF,AW,B7]
def AQe(x y:AJ):Bool:=x.Id==y.Id&&(x.AT==y.AT&&(x.BQ==y.BQ&&(x.A1==y.A1&&(x.CT==y.CT&&(x.Since==y.Since&&(x.Ai==y.Ai&&(x.State==y.State&&(x.CB==y.CB&&(x.CX==y.CX&&true)))))))))
def eF(a b:AE):Bool:=
 EC a&&(EC b&&(OP a.AO b.AO&&(a.Now==b.Now&&(a.Ai==b.Ai&&(Du AQe a.AG b.AG&&(Du (·==·) a.A0 b.A0&&(Du (·==·) a.Ay b.Ay&&Du rX a.AH b.AH)))))))
theorem eL{a b:AE}(ha:Ba a)(hb:Ba b):AFU a b=some (eF a b):=by
 have h1:=ha.DV;have h2:=ha.Bv;have h3:=ha.D7;have h4:=ha.todo;have h5:=ha.FL;have hc:AFT a.AH b.AH=some (Du rX a.AH b.AH):=by
  unfold AFT;refine MI (by omega) ?_ ?_
  .intro L i h h';unfold bw;rw[A3 h,BW,A5 h,AF,A5 h',AF,eK (ha.C4 _ (Am h)) (hb.C4 _ (Am h')),AF]
  .intro L;unfold bw wF;rw[Cw,BV,AW]
 have hp:AFr a.AG b.AG=some (Du AQe a.AG b.AG):=by
  unfold AFr;refine MI (by omega) ?_ ?_
  .intro L i h h';unfold cQ;rw[A3 h,BW,A5 h,AF,A5 h',AF];rfl
  .intro L;unfold cQ wv;rw[Cw,BV,AW]
 unfold AFU Ho eF;simp only[Io ha,Io hb,eO (show a.AO.AR.length<2 ^ 62 by omega),hp,hc,LZ (show a.A0.length<2 ^ 62 by omega),LZ (show a.Ay.length<2 ^ 62 by omega),AF,AW,B7]
theorem mB{α:Type}{eq:α->α->Bool}{a b:List α}{F:(Int->AA Bool)->Int->AA Bool}{E:Bool}(hl:a.length<2 ^ 63)(hab:a.length=b.length)
 (step:∀L i (h:i<a.length) (h':i<b.length),F L (i:Int)=br (!(eq a[i] b[i])) (some false) (L (w64 ((i:Int)+1)))) (stop:∀L,F L (a.length:Int)=some E):Aw F big 0=some (Du eq a b&&E):=by
 refine(C5 (n:=a.length) (fun i (_:Unit)=>(i:Int)) (fun _ _=>True) (fun i _=>some (Du eq (a.drop i) (b.drop i)&&E)) hl ?_ (v:=()) trivial);intro L i _ _ hi ih;rcases Aj i a.length with h|h
 .rw[step L i h (by omega),Bd h hl,Ec h,Ec (l:=b) (i:=i) (by omega),Du,BI];cases eq a[i] b[i] with|true=>rw[BW,ih () trivial h];rfl|false=>rfl
 .obtain rfl:i=a.length:=by omega
  rw[stop,List.drop_length,List.drop_eq_nil_of_le (by omega)];rfl
theorem ACy{a b:AV}:OP a b=true↔a=b:=by
 unfold OP;obtain⟨s,a1,a2,a3,a4,a5,a6,a7,a8⟩:=a;obtain⟨t,b1,b2,b3,b4,b5,b6,b7,b8⟩:=b
 grind[IU,AV.mk.injEq]
theorem gT{a b:AE}(ha:Ba a)(hb:Ba b):AEw a b=some (eF a b):=by
 have h1:=ha.DV;have h2:=ha.Bv;have h3:=ha.D7;have h4:=ha.todo;have h5:=ha.FL;have ht:G9 a b true=some false:=rfl;have hf:EC a=true->EC b=true->OP a.AO b.AO=true->a.AG.length=b.AG.length->G9 a b false=some (Du AQe a.AG b.AG&&Du rX a.AH b.AH):=by
  intro gA gB gR gp;have hcl:a.AH.length=b.AH.length:=by
   have e1:=(GB.1 gA).D7;have e2:=(GB.1 gB).D7;rw[e1,e2,ACy.1 gR]
  unfold G9;rw[BV];refine mB (by omega) gp ?_ ?_
  .intro L i h h';unfold ak;rw[A3 h,BW,A5 h,AF,A5 h',AF];rfl
  .intro L;unfold ak vQ;rw[Cw,BV,AW,<-Bool.and_true (Du rX a.AH b.AH)];refine mB (by omega) hcl ?_ ?_
   .intro L i h h';unfold aq;rw[A3 h,BW,A5 h,AF,A5 h',AF,gQ (ha.C4 _ (Am h)) (hb.C4 _ (Am h')),AF]
   .intro L;unfold aq vR;rw[Cw,BV,AW]
 unfold AEw eF;rw[Iy ha,AF,Iy hb,AF,gV (by omega),AF,Lj (by omega),AF,Lj (by omega),AF];simp only[AW,ht,BI];cases gA:EC a
 .rfl
 cases gB:EC b
 .rfl
 cases gR:OP a.AO b.AO
 .rfl
 simp only[BW,CE];by_cases n:a.Now=b.Now
 .by_cases t:a.Ai=b.Ai
  .by_cases p:a.AG.length=b.AG.length
   .have e1:(a.Now != b.Now)=false:=by simp[n]
    have e2:(a.Ai != b.Ai)=false:=by simp[t]
    have e3:((a.AG.length:Int) != (b.AG.length:Int))=false:=by simp[p]
    have e4:(a.Now==b.Now)=true:=by simp[n]
    have e5:(a.Ai==b.Ai)=true:=by simp[t]
    rw[e1,e2,e3,e4,e5,BV,BV,BV,CE,CE];cases Du (·==·) a.A0 b.A0
    .simp
    .cases Du (·==·) a.Ay b.Ay
     .simp[ht]
     .rw[BW,Bi,hf gA gB gR p,CE,CE]
   .have e3:((a.AG.length:Int) != (b.AG.length:Int))=true:=by simp;omega
    have e6:Du AQe a.AG b.AG=false:=gF p;rw[e3,BW,Sa,Sa,e6];simp
  .have e2:(a.Ai != b.Ai)=true:=by simpa using t
   have e5:(a.Ai==b.Ai)=false:=by simpa using t
   rw[e2,BW,Sa,e5];simp
 grind[BW]
def ACw(a b:BK):Bool:=a.Code==b.Code&&Du (·==·) a.Ids b.Ids
theorem gU{a b:BK}(ha:a.Ids.length<=1048576):AFl a b=some (ACw a b):=by
 grind[AFl,cO,ACw,Lj,AF,AW,B7]
theorem eM{a b:BK}(ha:a.Ids.length<=1048576):AFX a b=some (ACw a b):=by
 grind[AFX,cA,ACw,LZ,AF,AW,B7]
theorem qV{a b:List BK}(hl:a.length<=1048576)(ha:∀r∈a,r.Ids.length<=1048576):AFV a b=some (Du ACw a b):=by
 unfold AFV;refine MI (by omega) ?_ ?_
 .grind[bz,A3,BW,A5,AF,gU,List.getElem_mem]
 grind[bz,wG,BV,AW]
theorem WE{a b:List BK}(hl:a.length<=1048576)(ha:∀r∈a,r.Ids.length<=1048576):AFY a b=some (Du ACw a b):=by
 unfold AFY;refine MI (by omega) ?_ ?_
 .grind[cB,A3,BW,A5,AF,eM,List.getElem_mem]
 grind[cB,wH,BV,AW]
def qX(w:EL):Bool:=
 H4 w.Bs&&(w.Bs.Seq==w64 ((w.Lm.length:Int)+(w.Bs.Laid.length:Int))&&(eF (HB w.Lm (Hs w.Bs.BD.AO).1).1 w.Bs.BD&&Du ACw (HB w.Lm (Hs w.Bs.BD.AO).1).2 w.Hz))
theorem AC5{w:EL}(hw:Ox w):AFW w=some (qX w):=by
 have he:=hw.Vn;have hn:=UI he.FQ.DV;obtain⟨d1,d2,d3⟩:=QB w.Lm hn;have hd:=hw.done;unfold AFW b0 b9 qX;simp only[RB he,ACI he.FQ.DV,gO hn hw.done,gT d1 he.FQ,qV (show (HB w.Lm (Hs w.Bs.BD.AO).1).2.length<=1048576 by omega) (fun r hr=>by have:=d3 r hr;omega),AF,AW,B7];cases H4 w.Bs
 .rfl
 .simp only[bne,BI,BW,CE,Bi];cases w.Bs.Seq==w64 ((w.Lm.length:Int)+(w.Bs.Laid.length:Int))<;>rfl
theorem ABy{w:EL}(hw:Ox w):AFZ w=some (qX w):=by
 have he:=hw.Vn;have hn:=UI he.FQ.DV;obtain⟨d1,d2,d3⟩:=QB w.Lm hn;have hd:=hw.done;unfold AFZ cC cD qX;simp only[Q1 he,ACH he.FQ.DV,eG hn hw.done,eL d1 he.FQ,WE (show (HB w.Lm (Hs w.Bs.BD.AO).1).2.length<=1048576 by omega) (fun r hr=>by have:=d3 r hr;omega),AF,AW,B7];cases H4 w.Bs
 .rfl
 .simp only[bne,BI,BW,CE,Bi];cases w.Bs.Seq==w64 ((w.Lm.length:Int)+(w.Bs.Laid.length:Int))<;>rfl
end Lv.P
namespace Lv.P
open Lv Go
theorem AJj{r:BK}(hr:r.Ids.length<=1048576):AFo r=some r:=by
 unfold AFo;rw[U7 hr,AF]
theorem ADH{l:List BK}(hl:l.length<=1048576)(hp:∀x∈l,x.Ids.length<=1048576):AFp l=some l:=by
 unfold AFp;rw[DB (by unfold lim;omega),Int.toNat_natCast];refine JT (by omega) ?_ ?_
 .grind[cP,A3,BW,A5,AF,AJj,List.getElem_mem,Bd,Int.toNat_natCast]
 grind[cP,wu,BV,AW]
theorem AJn{w:EL}(hw:Ox w):kr w=some w:=by
 unfold kr;rw[OW hw.Vn,AF,yt hw.done,AF,ADH hw.ATo hw.ids,AF]
theorem ADC{l:List BK}(hl:okL UY l){d:Int}(h0:0<=d)(h1:d<=1048576):Sz (AFm l d) d (l.length<=1048576/\∀c∈l,c.Ids.length<=1048576):=by
 have hn:=hl.1;unfold AFm Sz;rw[BP (n:=d-(l.length:Int)) (by omega) (by omega),Bl];split
 .grind
 rename_i hd;refine AF5 (n:=l.length) (fun i (v:Int)=>(v,(i:Int))) (fun i v=>0<=v/\v<=d-l.length/\∀c∈l.take i,c.Ids.length<=1048576) _ (by omega) ?_ (v:=d-l.length) ⟨by omega,by omega,by simp⟩;rintro L i v ⟨hv0,hv,hf⟩ hi ih;unfold wg wa ALG;dsimp only;rcases Aj i l.length with h|h
 .obtain⟨r,e,hr⟩:=U2 (l:=l[i].Ids) (hl.2 _ (Am h)).2.1.1 hv0 (by omega)
  grind[A3,BW,A5,AF,Bl,Bd,List.take_add_one,List.getElem?_eq_getElem]
 grind[BV,AW,List.take_length]
theorem AJd{w:EL}(hw:fO w):Sz (AFn w 1048576) 1048576 (Ox w):=by
 obtain⟨g1,g2,g3,_⟩:=hw;unfold AFn;obtain⟨a,q,ha⟩:=gv g1;rw[q,AF,Bl];split
 .exact⟨_,rfl,.inl (by omega)⟩
 obtain⟨k1,k2,k3⟩:=ha.resolve_left (by omega);obtain⟨b,q,hb⟩:=yl g2.1 (d:=a) (by omega) (by omega);rw[q,AF,Bl];split
 .exact⟨_,rfl,.inl (by omega)⟩
 obtain⟨c,q,hc⟩:=ADC g3 (d:=b) (by omega) (by omega);rw[q,AF,Bl];split
 .exact⟨_,rfl,.inl (by omega)⟩
 obtain⟨l1,l2,l3,l4⟩:=hc.resolve_left (by omega);exact⟨_,rfl,.inr ⟨by omega,by omega,k3,by omega,l3,l4⟩⟩
theorem VF{w:EL}(hw:fO w):F4 w=some true:=by
 unfold F4;obtain⟨x,ex,hx⟩:=AJd hw;rw[ex,AF,Bl];split
 .rfl
 have hs:=(hx.resolve_left (by omega)).2.2;rw[AJn hs,AF,AC5 hs,AF,AF,ABy hs,AF,ANi,BV,AF,AHQ hs,AF,BI,BW]
end Lv.P
