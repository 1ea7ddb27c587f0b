/- Plain laws about what the program computes. -/
import Derived.Test.YtnjoipcemhflkaaGreatKJw
import Derived.Test.YtnjoipcemhflkaaGreatPTw
set_option linter.unusedVariables false
set_option linter.unusedSimpArgs false
set_option linter.unusedSectionVars false
open List renaming getElem_mem->Ah,length_append->AK,mem_append->B7
namespace Lv.P
open Lv Go
theorem AWD{l:List B6}(a:l.length<=1048576)(c:∀x∈l,x.Ids.length<=1048576):Il l=some l:=by
 have hlim:lim=268435456:=rfl;unfold Il;refine(KZ (fun r=>[r]) some a 1 (by simp) (v0:=[]) ?_ ?_).trans (by simp)
 .intro L i h v e;have g:=c _ (Ah h);unfold I4;dsimp only;rw[B9 h,BP,BG h,AB,AB,B8 (by omega),B8 (by simp at e ⊢;omega)];rfl
 grind[I4,L0,Bb,AV]
theorem AWC{l:List B6}(a:l.length<=1048576)(c:∀x∈l,x.Ids.length<=1048576):AKw l=some l:=by
 have hlim:lim=268435456:=rfl;unfold AKw;refine(KZ (fun r=>[r]) some a 1 (by simp) (v0:=[]) ?_ ?_).trans (by simp)
 .intro L i h v g;have e:=c _ (Ah h);unfold jw;dsimp only;rw[B9 h,BP,BG h,AB,Tn e,AB,B8 (by simp at g ⊢;omega)]
 grind[jw,ACo,Bb,AV]
theorem ANG{w:Cf}(a:KU w):Kb w=some w:=by
 have hlim:lim=268435456:=rfl;have c:=a.done;unfold Kb;simp only[I3 a.Qk,AB,AWD a.AU4 a.ids,B8 (show 0+w.GS.length<=lim by omega),IY,Ce,List.nil_append]
theorem ANF{w:Cf}(a:KU w):AKx w=some w:=by
 have hlim:lim=268435456:=rfl;have c:=a.done;unfold AKx;simp only[Nl a.Qk,AB,AWC a.AU4 a.ids,B8 (show 0+w.GS.length<=lim by omega)]
noncomputable def svF(w:Cf)(b:Ap×Bool):Int:=if D7 w.Ao=true/\b.2=true then w64 (w64 (b.1.Seq-w.Ao.Seq)+w.Ao.Laid.length) else -1
theorem zr{w:Cf}(g:KU w){l:List Int}{n:Int}{q:AE×Int×Bool}(h:Vz (HA w.Ao.BH l) n q) :
 Nm w l=some (svF w (FP (HA w.Ao.BH l) n q))/\AQp w l=some (svF w (FP (HA w.Ao.BH l) n q)):=by
 have a:=g.Qk;obtain⟨j,y,B⟩:=rp a l;obtain⟨c,e,_⟩:=AV5 j y B h;unfold Nm AQp svF;simp only[HQ a,IV a,AB,TW,S4,c,e];cases D7 w.Ao
 .exact⟨rfl,rfl⟩
 .cases (FP (HA w.Ao.BH l) n q).2<;>exact⟨rfl,rfl⟩
noncomputable def ALt(w:Cf)(b:Ap×Bool):Cf×Int:=
 if inB (svF w b) 0 w.Ao.Laid.length=false then (w,21) else
 (⟨b.1,w.GS++w.Ao.Laid.take (svF w b).toNat,w.Dn++(Ge (w.Ao.Laid.take (svF w b).toNat) w.Ao.BO).2,w64 (w.Iv+1)⟩,0)
structure Hap(w:Cf)(a:UQ)(r:Cf×Int):Prop where
 hpK:inB a.Kind 1 4=false->r=(w,26)
 hpB:inB a.Kind 1 4=true->D7 w.Ao=false->r=(w,21)
 hpL:D7 w.Ao=true->a.Kind=1->r=(⟨(K7 w.Ao a.Req).1,w.GS,w.Dn,w.Iv⟩,(K7 w.Ao a.Req).2)
 hpS:D7 w.Ao=true->a.Kind=2->r=(⟨(JZ w.Ao).1,w.GS++w.Ao.Laid,w.Dn++(JZ w.Ao).2,w.Iv⟩,0)
 hpM:D7 w.Ao=true->a.Kind=3->∃m,AlP w.Ao a.N_=some m/\r=(⟨m.1,w.GS,w.Dn,w.Iv⟩,if m.2=true then 0 else 25)
 hpF:D7 w.Ao=true->a.Kind=4->∃n q,Vz (HA w.Ao.BH a.R4) n q/\r=ALt w (FP (HA w.Ao.BH a.R4) n q)
structure AM4(w:Cf):Prop extends KU w where
 wrD:w.GS.length+w.Ao.Laid.length<=1048576
 wrP:w.Dn.length+w.Ao.Laid.length<=1048576
theorem tu{w:Cf}(I:AM4 w)(a:UQ):∃r,SD w a=some r/\AKy w a=some r/\KU r.1/\Hap w a r:=by
 have hlim:lim=268435456:=rfl;have c:=I.toKU;have e:=I.Qk;have hd:=I.wrD;have hp:=I.wrP;obtain⟨n,q,R⟩:=yw (HA w.Ao.BH a.R4);obtain⟨s1,s2⟩:=zr c R;obtain⟨Y,Z,l3⟩:=rp e a.R4;obtain⟨S,X,bf⟩:=AV5 Y Z l3 R;obtain⟨m,m1,m2,mf⟩:=AM1 e a.N_;obtain⟨z1,z2,z3⟩:=tO e;have hz:(JZ w.Ao).2.length<=w.Ao.Laid.length:=by
  unfold JZ;split
  .simp
  .have:=(KL w.Ao.Laid e.EY).2.1;dsimp only;omega
 obtain⟨y1,y2,y3⟩:=KL (w.Ao.Laid.take (svF w (FP (HA w.Ao.BH a.R4) n q)).toNat) e.EY;have yl:(w.Ao.Laid.take (svF w (FP (HA w.Ao.BH a.R4) n q)).toNat).length<=w.Ao.Laid.length:=by rw[List.length_take];omega
 unfold SD AKy G8 jy AmM SE;simp only[ANG c,ANF c,AB,Gk,Fb,BK,HQ e,IV e,YX e,ASs e,aX e,ANd e,m1,m2,s1,s2,AV,TW,S4,S,X,List.drop_zero,Nat.sub_zero];by_cases B:inB a.Kind 1 4=true
 case neg=>
  rw[Bool.not_eq_true]at B;have H:=B;unfold inB at H;rw[decide_eq_false_iff_not]at H;rw[B,Bb,Bb];exact⟨_,rfl,rfl,c,fun _=>rfl,by simp[B],fun _ h=>absurd h (by omega),fun _ h=>absurd h (by omega),fun _ h=>absurd h (by omega),fun _ h=>absurd h (by omega)⟩
 rw[B,BP,BP];cases g:D7 w.Ao with
 |false=>
  rw[Bb,Bb,BP];exact⟨_,rfl,rfl,c,by simp[B],fun _ _=>rfl,by simp[g],by simp[g],by simp[g],by simp[g]⟩
 |true=>
  rw[CA]at B;rw[BP,BP];by_cases E:a.Kind=1
  .rw[E];refine⟨_,rfl,rfl,⟨Xw e _,c.done,c.AU4,c.ids⟩,by simp[inB,E],by simp[g],fun _ _=>rfl,by simp[E],by simp[E],by simp[E]⟩
  by_cases G:a.Kind=2
  .rw[G,B8 (by omega),B8 (by omega)];refine⟨_,rfl,?_,⟨z1,?_,?_,?_⟩,by simp[inB,G],by simp[g],by simp[G],fun _ _=>rfl,by simp[G],by simp[G]⟩
   .rw[show ((2:Int)==4)=false from rfl,Bb,Bb,show ((2:Int)==1)=false from rfl,Bb,show ((2:Int)==2)=true from rfl,BP]
   .rw[AK];omega
   .rw[AK];omega
   .intro r J;rcases B7.1 J with h|h
    .exact c.ids r h
    .exact z3 r h
  by_cases j:a.Kind=3
  .rw[j];cases Q:m.2 with|false=>exact⟨_,rfl,rfl,⟨mf,c.done,c.AU4,c.ids⟩,by simp[inB,j],by simp[g],by simp[j],by simp[j],fun _ _=>⟨m,m1,by rw[Q];rfl⟩,by simp[j]⟩|true=>exact⟨_,rfl,rfl,⟨mf,c.done,c.AU4,c.ids⟩,by simp[inB,j],by simp[g],by simp[j],by simp[j],fun _ _=>⟨m,m1,by rw[Q];rfl⟩,by simp[j]⟩
  have y:a.Kind=4:=by omega
  rw[y,show ((4:Int)==1)=false from rfl,Bb,show ((4:Int)==2)=false from rfl,Bb,show ((4:Int)==3)=false from rfl,Bb,show ((4:Int)==4)=true from rfl,BP];cases L:inB (svF w (FP (HA w.Ao.BH a.R4) n q)) 0 w.Ao.Laid.length with
  |false=>
   rw[Bb,AB,Bb];exact⟨_,rfl,rfl,c,by simp[inB,y],by simp[g],by simp[y],by simp[y],by simp[y],fun _ _=>⟨n,q,R,by unfold ALt;rw[AW L]⟩⟩
  |true=>
   have O:=CA.1 L;have yd:=RQ e.EY (l:=w.Ao.Laid.take (svF w (FP (HA w.Ao.BH a.R4) n q)).toNat) (by have:=e.laid;omega);have yi:=Qz e.EY (l:=w.Ao.Laid.take (svF w (FP (HA w.Ao.BH a.R4) n q)).toNat) (by have:=e.laid;omega);have E:w.GS.length+(w.Ao.Laid.take (svF w (FP (HA w.Ao.BH a.R4) n q)).toNat).length<=lim:=by omega
   have G:w.Dn.length+(Ge (w.Ao.Laid.take (svF w (FP (HA w.Ao.BH a.R4) n q)).toNat) w.Ao.BO).2.length<=lim:=by omega
   simp only[BP,Bb,B8 O,B8 E,B8 G,yd,yi,AB,Ce,IJ,Bool.not_true];refine⟨_,rfl,rfl,⟨bf,?_,?_,?_⟩,by simp[inB,y],by simp[g],by simp[y],by simp[y],by simp[y],fun _ _=>⟨n,q,R,by unfold ALt;rw[L,AR (by simp)]⟩⟩
   .rw[AK];omega
   .rw[AK];omega
   .intro r J;rcases B7.1 J with h|h
    .exact c.ids r h
    .have:=y3 r h;omega
end Lv.P
