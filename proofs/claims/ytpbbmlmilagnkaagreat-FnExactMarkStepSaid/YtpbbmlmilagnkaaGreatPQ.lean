/- Plain laws about what the program computes. -/
import Derived.Test.YtpbbmlmilagnkaaGreatPO
import Derived.Test.YtpbbmlmilagnkaaGreatPG
set_option linter.unusedVariables false
set_option linter.unusedSimpArgs false
set_option linter.unusedSectionVars false
open Bool renaming not_true->Bm
open Nat renaming le_trans->Bv
namespace Lv.P
open Lv Go
theorem po(s:B5):∃c,nB s=some c/\nD s=some c/\(c = -1\/c=0\/c=1):=by
 obtain⟨r,h1,h2,_⟩:=Kz s 0;obtain⟨r',h3,h4,_⟩:=Kz s 1;unfold nB nD Q2 XK Q3;rw[h1,h2,h3,h4,AE,AE,AE,AE];cases e1:r.2.2<;>cases e2:r'.2.2<;>simp only[BB,BL,BN,AS,e1,e2,Bm,Bool.not_false]
 .grind
 .exact⟨_,rfl,rfl,by decide⟩
 .exact⟨_,rfl,rfl,by decide⟩
 .by_cases hc:r.2.1>=r'.2.1
  .rw[show decide (r.2.1>=r'.2.1)=true from decide_eq_true hc,show decide (r'.2.1>r.2.1)=false from decide_eq_false (by omega)];exact⟨_,rfl,rfl,by decide⟩
  .rw[show decide (r.2.1>=r'.2.1)=false from decide_eq_false hc,show decide (r'.2.1>r.2.1)=true from decide_eq_true (by omega)];exact⟨_,rfl,rfl,by decide⟩
def gY(s:B5)(k:Int)(a:B2):B5:=if (k.tmod 2==0)=true then ⟨s.Log,a,s.Odd⟩ else ⟨s.Log,s.Fw,a⟩
theorem iH(s:B5)(k:Int)(a:B2):zB s k a=some (gY s k a):=by unfold zB gY;rw[GM,AS,AS];split<;>rfl
theorem fO(s:B5)(k:Int)(a:B2):bI s k a=some (gY s k a):=by unfold bI gY;rw[GM,AS,AS];split<;>rfl
theorem TG(s:B5)(l:B2)(k:Int):gY ⟨l,s.Fw,s.Odd⟩ k (Il s k)=⟨l,s.Fw,s.Odd⟩:=by unfold gY Il;split<;>rfl
noncomputable def O4(a:B2)(p:Int):B2×Bool:=if Ix a=true/\inB p 0 a.Data.length=true/\a.Safe=a.Data.length then (⟨a.Data.drop p.toNat,(a.Data.length:Int)-p⟩,true) else (a,false)
theorem ACw(a:B2)(p:Int):zA a p=some (O4 a p):=by
 grind[zA,Q4,O4,JC,AE,Gt,AS,GM,Ix,inB,CG,Ao]
theorem AA4(a:B2)(p:Int):zC a p=some (O4 a p):=by
 grind[zC,Q6,O4,I6,AE,Gj,AS,GM,Ix,inB,CG,Ao]
theorem ACu{a:B2}{p:Int}(h:(O4 a p).2=false):(O4 a p).1=a:=by unfold O4 at h ⊢;grind
theorem ACv(a:B2)(p:Int):(O4 a p).1.Data.length<=a.Data.length:=by unfold O4;split<;>simp
theorem iz{a:B2}{s:List UInt8}(h:(Ip a s).2=false):(Ip a s).1=a:=by unfold Ip at h ⊢;grind
theorem ve{e:Ay}(he:DU e)(k:Int):(Il e.Bu k).Data.length<=1048576:=by unfold Il;split;exact he.even;exact he.odd
theorem ga{e:Ay}(he:DU e){k:Int}{a:B2}(h:a.Data.length<=1048576):DU ⟨e.Av,gY e.Bu k a,e.Seq,e.Laid⟩:=by
 unfold gY;split<;>exact⟨he.GR,he.log,by first|exact h|exact he.even,by first|exact h|exact he.odd,he.laid⟩
theorem Ow{e:Ay}(he:DU e)(p:Int):∃r,nF e p=some r/\bJ e p=some r/\DU r.1:=by
 obtain⟨n,n1,n2,n3⟩:=po e.Bu;obtain⟨r,r1,r2,_⟩:=Kz e.Bu n;unfold nF bJ;rw[PG he,Uw he,n2,Zm he,Zd he,Gt,bf,show w64 (4-1)=3 from rfl];simp only[AE,AS];cases hb:RA e with
 |false=>exact⟨(e,false),rfl,rfl,he⟩|true=>
 simp only[Bm,BN];by_cases hl:(e.Laid.length:Int)>0
 .rw[decide_eq_true hl];exact⟨(e,false),rfl,rfl,he⟩
 rw[decide_eq_false hl,BN,BN];cases hi:inB p 0 3 with
 |false=>exact⟨(e,false),rfl,rfl,he⟩|true=>
 simp only[Bm,BN];unfold Q5 Nj Ni Nl;rw[BN,n1,AE];by_cases hn:n<0
 .rw[decide_eq_true hn,BL,BL];exact⟨(e,false),rfl,rfl,he⟩
 have hs:=ve he (w64 (1-n));have hap:=fun s=>na (s:=s) hs
 simp only[decide_eq_false hn,BN,T8,Ty,AE,iH,fO,AS,O6 he.GR,O0 he.GR,pK (Bv (TW e.Av e.Seq) (by omega)),hap _ (Bv (TW e.Av e.Seq) (by omega)),ACx,AA5,r1,r2,iG he.log,fN he.log,ACw,AA4,PG he,BB,BL];have hp:∀k,gY e.Bu k (Il e.Bu k)=e.Bu:=fun k=>TG e.Bu e.Bu.Log k
 cases p==0 with
 |true=>exact⟨_,rfl,rfl,ga he (by simp)⟩|false=>
 rw[BN,BN];cases p==1 with
 |true=>
  rw[BL,BL];cases h:(Ip (Il e.Bu (w64 (1-n))) (M7 e.Av e.Seq)).2 with
  |true=>exact⟨_,rfl,rfl,ga he (jA hs)⟩|false=>exact⟨(e,false),rfl,by rw[iz h,hp],he⟩
 |false=>
 rw[BN,BN];cases p==2 with
 |true=>exact⟨_,rfl,rfl,ga he (by rw[vk];exact hs)⟩|false=>
 rw[BN,BN];cases h:(O4 e.Bu.Log (pb r.2.1 0 (IT e.Bu.Log.Data))).2 with
 |true=>exact⟨_,rfl,by rw[TG],by dsimp only;rw[TG];exact⟨he.GR,Bv (ACv _ _) he.log,he.even,he.odd,he.laid⟩⟩|false=>exact⟨(e,false),rfl,by rw[ACu h],he⟩
theorem On{e:Ay}{p:Int}(he:Lq e)(_:okI p):Ee e p=some true:=by
 unfold Ee;obtain⟨x,ex,hx⟩:=ZL he;rw[ex,AE,BD];split
 .rfl
 have hs:=(hx.resolve_left (by omega)).2.2;obtain⟨r,r1,r2,hf⟩:=Ow hs p;obtain⟨k',s,ps,cs,td,js,ld,em,⟨m1,m2⟩,mh⟩:=Ko hf (k:=1) (by omega) (by omega);obtain⟨k2,s2,ps2,cs2,td2,js2,ld2,em2,⟨n1,n2⟩,_⟩:=Ko hs (k:=1) (by omega) (by omega);have hk:decide (k'<0)=false:=by rw[decide_eq_false_iff_not];omega
 have hk2:decide (k2<0)=false:=by rw[decide_eq_false_iff_not];omega
 have hb:(!(r.2==r.2))=false:=by cases r.2<;>rfl
 have hE:=MQ hf;rw[Io hs,AE,r1,AE,AE,r2,AE,hE,AE,BB,BL,AS,hb];unfold FA;rw[BN,Io hs,AE,MQ hs,AE,BB,BL,em2,AE];dsimp only;rw[hk2,BN,hE,AE,BB,BL,AS,hb];unfold D5;rw[BN,em,AE];dsimp only;rw[mh _ rfl rfl rfl rfl rfl rfl,AE,hk,BN,ne_self,BN,Io hs,AE,r2,AE,hE,AE,BB,BL,AS,hb]
 grind[FB,BN,AE]
theorem uY(p:Int):zE p 0 4=some (if p<0 then 0 else if p<4 then p else 4):=by
 unfold zE;congr 1
 grind
theorem Zt(p:Int):∀(m n:Nat) (i:Int) (e:Ay),DU e->0<=i->i<=4->4<=(m:Int)+i->m<n->∃r,Aw (Q7 p) n (i,e)=some r/\Aw (Q8 p) n (i,e)=some r/\DU r.1
 |m,0,i,e,he,h0,h3,h1,h2=>absurd h2 (by omega)|m,n+1,i,e,he,h0,h3,h1,h2=>by
  rw[DF,DF];have ih:=fun x hx h5 h6=>Zt p (m-1) n (i+1) x hx (by omega) h5 (by omega) h6
  generalize Aw (Q7 p) n=L at *;generalize Aw (Q8 p) n=M at *;unfold Q7 Q8 nH nJ;dsimp only;rw[nr,uY,AE,AE,AS,BD,BD];by_cases hi:i<(if p<4 then p else 4)
  .rw[if_pos hi,if_pos (show i<(if p<0 then 0 else if p<4 then p else 4) by grind)];obtain⟨r,r1,r2,r3⟩:=Ow he i;rw[r1,r2,AE,AE,BB,BB];cases r.2 with
   |false=>exact⟨_,rfl,rfl,he⟩|true=>
    grind[BL,Ao]
  .rw[if_neg hi,if_neg (show ¬i<(if p<0 then 0 else if p<4 then p else 4) by grind)];exact⟨_,rfl,rfl,he⟩
theorem AAa{e:Ay}(he:DU e)(p:Int):∃r,zD e p=some r/\nI e p=some r/\DU r.1:=by
 unfold zD nI;rw[PG he,Uw he,AE,AE];exact Zt p 4 big 0 e he (by omega) (by omega) (by omega) (by have:=MK;omega)
theorem UF{e:Ay}{p:Int}(he:Lq e)(_:okI p):F8 e p=some true:=by
 unfold F8;obtain⟨x,ex,hx⟩:=ZL he;rw[ex,AE,BD];split
 .rfl
 have hs:=(hx.resolve_left (by omega)).2.2;obtain⟨r,r1,r2,hf⟩:=AAa hs p;obtain⟨k',s,ps,cs,td,js,ld,em,⟨m1,m2⟩,mh⟩:=Ko hf (k:=1) (by omega) (by omega);obtain⟨k2,s2,ps2,cs2,td2,js2,ld2,em2,⟨n1,n2⟩,_⟩:=Ko hs (k:=1) (by omega) (by omega);have hk:decide (k'<0)=false:=by rw[decide_eq_false_iff_not];omega
 have hk2:decide (k2<0)=false:=by rw[decide_eq_false_iff_not];omega
 have hb:(!(r.2==r.2))=false:=by cases r.2<;>rfl
 have hE:=MQ hf;rw[Io hs,AE,r1,AE,AE,r2,AE,hE,AE,BB,BL,AS,hb];unfold GY;rw[BN,Io hs,AE,MQ hs,AE,BB,BL,em2,AE];dsimp only;rw[hk2,BN,hE,AE,BB,BL,AS,hb];unfold E1;rw[BN,em,AE];dsimp only;rw[mh _ rfl rfl rfl rfl rfl rfl,AE,hk,BN,ne_self,BN,Io hs,AE,r2,AE,hE,AE,BB,BL,AS,hb]
 grind[GZ,BN,AE]
structure AMl(s:B5)(n:Int)(q:AH×Int×Bool):Prop where
 sn:nB s=some n
 im:nD s=some n
 sr:XH s n=some q
 ir:XJ s n=some q
 fit:CU q.1
 lo:0<=q.2.1
 hi:q.2.1<=1000000
noncomputable def used:Int->Int->List CN->Int|_,e,[]=>e|v,e,f::l=>if f.Seq<=v then used v f.Next l else if f.Seq=v+1/\(ALx f.Body).2=true then used (v+1) f.Next l else e
end Lv.P
