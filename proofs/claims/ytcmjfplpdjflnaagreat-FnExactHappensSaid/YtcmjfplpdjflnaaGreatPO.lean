/- Plain laws about what the program computes. -/
import Derived.Test.YtcmjfplpdjflnaaGreatPN
set_option linter.unusedVariables false
set_option linter.unusedSimpArgs false
set_option linter.unusedSectionVars false
open List renaming getElem_mem->Ao
namespace Lv.P
open Go (IntKind BinOp UnOp)
structure Jj(w:CB):Prop where
 Nq:Cw w.Ac
 done:w.GG.length<=1048576
 ACU:w.Cx.length<=1048576
 ids:∀r∈w.Cx,r.Ids.length<=1048576
theorem AK3{r:Bf}(a:r.Ids.length<=1048576):AH3 r r=some true:=by
 grind[AH3,BO,RA,AB]
theorem ADW{l:List Bf}(a:l.length<=1048576)(c:∀x∈l,x.Ids.length<=1048576):AH4 l l=some true:=by
 unfold AH4;refine ZO (by omega) ?_ ?_
 .grind[du,BL,BG,AB,AK3,BK]
 grind[du,zO,BO,AU]
theorem oD{w:CB}(a:Jj w):dv w w=some true:=by
 have c:=a.done;unfold dv;rw[ADV a.Nq,AB,BK,BL,ABG (by omega),AB,BK,BL,ADW a.ACU a.ids,AB,BK,BL,ne_self,BO]
def AF0(k:Int)(r:Bf)(k1:Int):Prop:=r.Code=k/\(0<=k/\k<=2 ^ 60)/\r.Ids.length<=1048576/\0<=k1/\Fw AXM (k+1) r.Ids k1
theorem ABr{l:List Bf}(q:l.length<=1048576)(e:∀r∈l,r.Ids.length<=1048576){k:Int}(j:0<=k)(I:k<=2 ^ 58) :
 ∃r,AH5 l k=some r/\(Fw AF0 k r.2 r.1/\r.2.length=l.length/\k<=r.1/\r.1<=k+2 ^ 50):=by
 have J:=pX (l:=l) (cst:=fun r=>1+r.Ids.length) (m:=1048577) fun r c=>by have:=e r c;omega
 unfold AH5;have key:=LL (l:=l) (Q:=AF0) (F:=VQ) (fun r=>1+r.Ids.length) (2 ^ 59) q j (by omega) ?_ ?_
 .grind
 .intro L v k i h O y B kb;have hi:i<v.length:=by omega
  have H:at? v (i:Int)=some l[i]:=by rw[FB];exact y
  have c:=e _ (Ao h);have G:w64 (k+1)=k+1:=Aq (by omega) (by omega);obtain⟨a,ea,g,E,a3,a4⟩:=RX (l:=l[i].Ids) c (k:=k+1) (by omega) (by omega);refine⟨a.1,⟨k,a.2⟩,?_,⟨rfl,⟨B,by omega⟩,by dsimp only;omega,by omega,g⟩,by omega,by push_cast;omega⟩;unfold VQ zP;dsimp only
  grind[BL,AB,AU,R6,List.set_set,B4]
 grind[VQ,zQ,BO,AU]
theorem ABV{l:List Bf}(j:l.length<=1048576){k a:Int}(e:Fw AF0 k l a):AH6 l k=some a:=by
 unfold AH6;refine LJ e j ?_ ?_
 .rintro L i h k B ⟨y,⟨G,kb⟩,q,E,ca⟩;have c:w64 (k+1)=k+1:=Aq (by omega) (by omega);have g:decide (B<0)=false:=by rw[decide_eq_false_iff_not];omega
  unfold dw;dsimp only;rw[B6 h,BL];simp only[BG h,AB,y,ne_self,BO,c,WC q ca,g]
 grind[dw,zS,BO,AU]
theorem ji{w:CB}(e:Jj w){k:Int}(q:0<=k)(O:k<=2 ^ 50) :
 ∃g s ps cs td js ld dn rp,zR w k=some (g,⟨⟨⟨⟨s,w.Ac.Az.AQ.Ce,w.Ac.Az.AQ.Room,w.Ac.Az.AQ.BB,w.Ac.Az.AQ.CE,w.Ac.Az.AQ.B0,w.Ac.Az.AQ.Rest,w.Ac.Az.AQ.Cd,w.Ac.Az.AQ.C3⟩,w.Ac.Az.Now,w.Ac.Az.Ay,ps,cs,td,js⟩,w.Ac.Bl,w.Ac.Seq,ld⟩,dn,rp,w.GH⟩)/\(k<=g/\g<=2 ^ 59) /\
  ∀r:CB,r.Ac.Az.AQ.AZ=s->r.Ac.Az.AG=ps->r.Ac.Az.AH=cs->r.Ac.Az.BE=td->r.Ac.Az.BC=js->r.Ac.Laid=ld->r.GG=dn->r.Cx=rp->zU r k=some g:=by
 have Q:=e.done;have S:=e.ACU;obtain⟨a,s,ps,cs,td,js,ld,ea,⟨a1,a2⟩,ah⟩:=ABq e.Nq q O;obtain⟨b,eb,h,b2,b3,b4⟩:=ABs (l:=w.GG) Q (k:=a) (by omega) (by omega);obtain⟨c,ec,j,c2,c3,c4⟩:=ABr (l:=w.Cx) S e.ids (k:=b.1) (by omega) (by omega);refine⟨c.1,s,ps,cs,td,js,ld,b.2,c.2,?_,⟨by omega,by omega⟩,?_⟩
 .grind[zR,AB]
 .rintro r y B E G H I J L;have X:decide (a<0)=false:=by rw[decide_eq_false_iff_not];omega
  have Y:decide (b.1<0)=false:=by rw[decide_eq_false_iff_not];omega
  have Z:decide (c.1<0)=false:=by rw[decide_eq_false_iff_not];omega
  unfold zU;rw[ah r.Ac y B E G H I,AB,X,BO,J,ABW (l:=b.2) (by omega) h,AB,Y,BO,L,ABV (l:=c.2) (by omega) j,AB,Z,BO]
end Lv.P
namespace Lv.P
open Lv Go
def Zw(a:B3):B3:=if Ii a=true then ⟨a.Data,a.Data.length⟩ else a
theorem Yq(a:B3):nn a=some (Zw a):=by
 grind[nn,gG,Zw,HR,AB,CJ,AU]
theorem YH(a:B3):m0 a=some (Zw a):=by
 unfold m0 Zw;rw[IJ,AB,BK,CJ];split<;>rfl
noncomputable def QR(e:BD):BD×List Bf:=
 if FO e=false then (e,[]) else (⟨(Ij e.Laid e.Az).1,⟨Zw e.Bl.Log,e.Bl.EJ,e.Bl.Odd⟩,e.Seq,[]⟩,(Ij e.Laid e.Az).2)
theorem ANV{e:BD}(a:Cw e):AIq e=some (QR e):=by
 unfold AIq QR;rw[KW a,AB,I8 a,AB,BK,CJ];by_cases c:FO e=true
 .rw[AW c,AT (by simp[c]),UD a.FY a.laid,AB,Yq,AB]
 grind
theorem ALK{e:BD}(a:Cw e):AIx e=some (QR e):=by
 unfold AIx QR;rw[Mo a,AB,I4 a,AB,BK,CJ];by_cases c:FO e=true
 .rw[AW c,AT (by simp[c]),YH,AB,Tz a.FY a.laid,AB]
 grind
theorem UK(a:B3):(Zw a).Data=a.Data:=by unfold Zw;split<;>rfl
theorem ANG{e:BD}(a:Cw e):Cw (QR e).1/\(QR e).2.length<=1048576/\∀r∈(QR e).2,r.Ids.length<=1048576:=by
 unfold QR;split
 .grind
 .obtain⟨c,j,g⟩:=Ob e.Laid a.FY;have q:=a.laid;exact⟨⟨c,by dsimp only;rw[UK];exact a.log,a.even,a.odd,by simp⟩,by dsimp only;omega,fun r h=>by have:=g r h;omega⟩
theorem ANk{r:Bf}(a:r.Ids.length<=1048576):AJP r=some r:=by
 unfold AJP;rw[Rz a,AB]
theorem AGc{l:List Bf}(a:l.length<=1048576)(c:∀x∈l,x.Ids.length<=1048576):AJQ l=some l:=by
 unfold AJQ;rw[B4 (by unfold lim;omega),Int.toNat_natCast];refine K7 (by omega) ?_ ?_
 .grind[iP,BL,BG,AB,ANk,Bp]
 grind[iP,AA4,BO,AU]
theorem ANo{w:CB}(a:Jj w):Vx w=some w:=by
 unfold Vx;rw[AGZ a.Nq,AB,AC1 a.done,AB,AGc a.ACU a.ids,AB]
theorem AGV{l:List Bf}(g:okL WT l){d:Int}(j:0<=d)(q:d<=1048576):Sz (AJN l d) d ((l.length:Int)<=d/\∀c∈l,c.Ids.length<=1048576):=by
 have E:=g.1;unfold AJN Sz;rw[Aq (n:=d-(l.length:Int)) (by omega) (by omega),BH];split
 .grind
 rename_i y;refine V7 (n:=l.length) (fun i (v:Int)=>(v,(i:Int))) (fun i v=>0<=v/\v<=d-l.length/\∀c∈l.take i,c.Ids.length<=1048576) _ (by omega) ?_ (v:=d-l.length) ⟨by omega,by omega,by simp⟩;rintro L i v ⟨a,H,B⟩ hi I;unfold AA3 AA2 AO0;dsimp only;rcases Nat.lt_or_ge i l.length with h|h
 .obtain⟨r,e,G⟩:=Rv (l:=l[i].Ids) (g.2 _ (Ao h)).2.1.1 a (by omega)
  grind[BG,AB,BH,Bp,List.take_add_one]
 grind[BO,AU]
theorem AGW{w:CB}(B:j5 w):Sz (AJO w 1048576) 1048576 (Jj w/\w.GG.length+w.Ac.Laid.length<=1048576/\w.Cx.length+w.Ac.Laid.length<=1048576):=by
 obtain⟨e,g,h,_⟩:=B;unfold AJO;obtain⟨a,q,j⟩:=ACt e;rw[q,AB,BH];split
 .exact⟨_,rfl,.inl (by omega)⟩
 obtain⟨I,J,E⟩:=j.resolve_left (by omega);obtain⟨b,q,H⟩:=ACu g.1 (d:=a) (by omega) (by omega);rw[q,AB,BH];split
 .exact⟨_,rfl,.inl (by omega)⟩
 obtain⟨c,q,y⟩:=AGV h (d:=b) (by omega) (by omega);rw[q,AB,BH];split
 .exact⟨_,rfl,.inl (by omega)⟩
 obtain⟨L,O,Q,G⟩:=y.resolve_left (by omega);exact⟨_,rfl,.inr ⟨by omega,by omega,⟨E,by omega,by omega,G⟩,by omega,by omega⟩⟩
end Lv.P
