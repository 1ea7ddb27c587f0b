/- Plain laws about what the program computes. -/
import Derived.Test.YtnjoipcemhflkaaGreatKIb
import Derived.Test.YtnjoipcemhflkaaGreatPTb
set_option linter.unusedVariables false
set_option linter.unusedSimpArgs false
set_option linter.unusedSectionVars false
open Bool renaming and_eq_true->AF
open Int renaming eq_ofNat_of_zero_le->AX,le_of_lt->Mo,le_refl->Nc,le_trans->Mp,toNat_natCast->Ac
open List renaming length_take->BL,take_prefix->EN
namespace Lv.P
open Lv Go
theorem NT{a:Bp}(h:Fz a=true)(c:a.Safe=a.Data.length)(p:Int):TE a p=a:=by
 have e:sS a p=a.Data.length:=by
  unfold sS;split
  .exact c
  .split<;>omega
 unfold TE;rw[AW h,e,Ac,List.take_length,<-c]
theorem R5{s s':BZ}{k a:Int}(h:E7 s k=E7 s' a):ABn s k=ABn s' a:=by
 unfold ABn;rw[JF,JF,h]
def AWq(x y:AE×Int×Bool):Int:=if x.2.2=true then (if y.2.2=true/\¬x.2.1>=y.2.1 then 1 else 0) else if y.2.2=true then 1 else -1
theorem Th{s:BZ}{x y:AE×Int×Bool}(e:ABn s 0=some x)(g:ABn s 1=some y):bG s=some (AWq x y):=by
 unfold bG Abs AWq;rw[e,g,AB,AB];cases a:x.2.2<;>cases c:y.2.2<;>simp[Bi,AV,a,c];by_cases h:y.2.1<=x.2.1
 .simp[h]
 .simp[h]
def Ch(L:Int):Int->List Br->Prop|_,[]=>True|e,f::l=>e<f.Next/\f.Next<=L/\Ch L f.Next l
theorem ZK(s:List UInt8):∀(f:Nat) (i:Int),Ch s.length i (frs f s i)
 |0,i=>trivial|f+1,i=>by
  unfold frs;split
  .rename_i h;have:=T4 h;exact⟨by omega,by omega,ZK s f _⟩
  .trivial
def Two(n k:Int):Prop:=n=0/\k=1\/n=1/\k=0
theorem Two.pu3{n k:Int}(h:Two n k)(s:BZ)(a:Bp):E7 (YG s k a) k=a/\E7 (YG s k a) n=E7 s n/\(YG s k a).Log=s.Log:=by
 rcases h with ⟨rfl,rfl⟩|⟨rfl,rfl⟩<;>exact⟨rfl,rfl,rfl⟩
theorem Two.bd3{n k:Int}(h:Two n k){s:BZ}(a:bG s=some n){x:AE×Int×Bool}(e:ABn s n=some x):x.2.2=true:=by
 obtain⟨y,g,_⟩:=GL s k;rcases h with ⟨rfl,rfl⟩|⟨rfl,rfl⟩
 .rw[Th e g]at a;unfold AWq at a;cases c:x.2.2 with|true=>rfl|false=>rw[c]at a;simp at a;split at a<;>omega
 .rw[Th g e]at a;unfold AWq at a;cases c:x.2.2 with|true=>rfl|false=>rw[c]at a;simp at a;split at a<;>omega
theorem zn{s s':BZ}(e:ABn s' 0=ABn s 0)(g:ABn s' 1=ABn s 1):bG s'=bG s:=by
 obtain⟨x,a,_⟩:=GL s 0;obtain⟨y,c,_⟩:=GL s 1;rw[Th a c,Th (e.trans a) (g.trans c)]
theorem AEX{s:BZ}{n:Int}{q:AE×Int×Bool}(h:(Lh s n q).2.2=true):II s=true/\¬n<0/\Lh s n q=((Ge (notes (aft q.2.1 (Dx s.Log.Data))) q.1).1,q.2.1+(notes (aft q.2.1 (Dx s.Log.Data))).length,true):=by
 unfold Lh at h ⊢;split
 .rename_i a;exact⟨a.1,a.2,rfl⟩
 .rename_i a;rw[AR a]at h;cases h
theorem ARC{s:List UInt8}{c:Nat}(J:c<=s.length){i:Int}(H:0<=i)(hi:i<=c) :
 ((J5 s i).2=true/\(J5 s i).1.Next<=c->J5 (s.take c) i=J5 s i)/\(¬((J5 s i).2=true/\(J5 s i).1.Next<=c)->(J5 (s.take c) i).2=false):=by
 obtain⟨k,rfl⟩:=AX H;have E:J5 s (k:Int)=vT (s.drop k) k:=by unfold J5;rw[AW (by omega),Ac]
 have G:J5 (s.take c) (k:Int)=vT ((s.drop k).take (c-k)) k:=by
  unfold J5;rw[AW (by rw[BL];omega),Ac,List.drop_take]
 rw[E,G];rcases Ny (s.drop k) k with ⟨q,b,e,g,I⟩|⟨e,g⟩
 .rw[I];dsimp only;by_cases y:(k:Int)+(frB q b).length<=c
  .exact⟨fun _=>ALw e (AEx g (by omega)),fun h=>absurd ⟨rfl,y⟩ h⟩
  .refine⟨fun h=>absurd h.2 y,fun _=>?_⟩;rw[T5];intro q' B j a;obtain⟨rfl,rfl⟩:=ALv j e (a.trans (EN _ _)) g;have:=a.length_le;rw[BL]at this;omega
 .rw[g];refine⟨fun h=>absurd h.1 (by simp),fun _=>?_⟩;rw[T5];intro q' B j a;exact e _ _ j (a.trans (EN _ _))
theorem Oo{L:Int}:∀(l:List Br) (v e:Int),Ch L e l->e<=used v e l
 | [],v,e,_=>Nc _|f::l,v,e,h=>by
  unfold used;split
  .exact Mp (Mo h.1) (Oo l v _ h.2.2)
  .split
   .exact Mp (Mo h.1) (Oo l _ _ h.2.2)
   .exact Nc _
theorem za{L:Int}:∀(l:List Br) (v e:Int),Ch L e l->e<=L->used v e l<=L
 | [],v,e,_,h=>h|f::l,v,e,h,a=>by
  unfold used;split
  .exact za l v _ h.2.2 h.2.1
  .split
   .exact za l _ _ h.2.2 h.2.1
   .exact a
theorem oe{s:List UInt8}{u:Nat}(y:u<=s.length):∀(f g:Nat) (i v:Int),0<=i->used v i (frs f s i)=u->s.length<f+i->(u:Int)<g+i ->
 used v i (frs g (s.take u) i)=u/\notes (aft v (frs g (s.take u) i))=notes (aft v (frs f s i))
 |0,g,i,v,q,h,B,E=>by
  have:=Oo (L:=s.length) [] v i trivial;simp only[frs]at h;unfold used at h;omega
 |f+1,0,i,v,q,h,B,E=>by
  have:=Oo _ v i (ZK s (f+1) i);omega
 |f+1,g+1,i,v,q,h,B,E=>by
  have H:=Oo _ v i (ZK s (f+1) i);have C:=ARC y q (i:=i) (by omega);rw[frs]at h ⊢;rw[frs];cases e:(J5 s i).2 with
  |false=>
   rw[e,AR (by simp)]at h;rw[C.2 (by simp[e]),AR (by simp),AR (by simp)];exact⟨h,rfl⟩
  |true=>
   have nx:=T4 e;rw[e,AW rfl]at h;rw[AW rfl];have ch:=ZK s f (J5 s i).1.Next;unfold used at h;by_cases a:(J5 s i).1.Seq<=v
   .rw[AW a]at h;have:=Oo _ v _ ch;rw[C.1 ⟨e,by omega⟩,e,AW rfl];have j:=oe y f g _ v (by omega) h (by omega) (by omega);unfold used aft;rw[AW a,AW a];rw[AW a];exact j
   .rw[AR a]at h;by_cases c:(J5 s i).1.Seq=v+1/\(M3 (J5 s i).1.Body).2=true
    .rw[AW c]at h;have:=Oo _ (v+1) _ ch;rw[C.1 ⟨e,by omega⟩,e,AW rfl];have j:=oe y f g _ (v+1) (by omega) h (by omega) (by omega);unfold used aft;rw[AR a,AW c,AR a,AW c.1,AR a,AW c.1];unfold notes;rw[AW c.2,AW c.2,j.2];exact⟨j.1,rfl⟩
    .rw[AR c]at h;rw[C.2 (fun G=>by omega),AR (by simp)];refine⟨h,?_⟩;unfold aft;rw[AR a];split
     .rename_i a3;unfold notes;rw[AR (fun G=>c ⟨a3,G⟩)]
     .rfl
theorem zU{s:BZ}(h:II s=true):Fz s.Log=true/\Fz s.DW=true/\Fz s.Odd=true:=by
 unfold II at h;simpa[AF] using h
theorem AAQ{s:BZ}(h:Ni s=true):s.Log.Safe=s.Log.Data.length/\s.DW.Safe=s.DW.Data.length/\s.Odd.Safe=s.Odd.Data.length:=by
 unfold Ni at h;simpa[AF] using h
theorem AFJ{s:BZ}(hs:s.Log.Data.length<=1048576)(he:s.DW.Data.length<=1048576)(ho:s.Odd.Data.length<=1048576){n:Int}{q:AE×Int×Bool}(R:Vz s n q)(B:(FP s n q).2=true) :
 (∀l,HA (FP s n q).1.BH l=(FP s n q).1.BH)/\ALA (FP s n q).1.BH=some (FP s n q)/\((FP s n q).1.BH.Log.Data.length:Int)=MT s n q /\
  used q.2.1 0 (Dx (FP s n q).1.BH.Log.Data)=(FP s n q).1.BH.Log.Data.length:=by
 have hcond:(Lh s n q).2.2=true/\Ni s=true:=by
  unfold FP at B;by_cases h:(Lh s n q).2.2=true/\Ni s=true
  .exact h
  .rw[AR h]at B;cases B
 obtain⟨y,X⟩:=hcond;obtain⟨u1,O,u3⟩:=AEX y;obtain⟨Q,S,a3⟩:=zU u1;obtain⟨k1,Z,k3⟩:=AAQ X;have hA:=IT.1 Q;have c:=ZK s.Log.Data (s.Log.Data.length+1) 0;have hU:MT s n q=used q.2.1 0 (Dx s.Log.Data):=by unfold MT;rw[AW ⟨u1,O⟩]
 have H:0<=MT s n q:=by rw[hU];exact Oo _ _ _ c
 have hu1:MT s n q<=s.Log.Data.length:=by rw[hU];exact za _ _ _ c (by omega)
 obtain⟨u,Y⟩:=AX H;have I:u<=s.Log.Data.length:=by omega
 have a:(s.Log.Data.take u).length=u:=by rw[BL];omega
 have G:Rq (Td s.Log (MT s n q)).1=⟨s.Log.Data.take u,(u:Int)⟩:=by
  unfold Td;rw[Y,AW ⟨Q,CA.2 (by omega)⟩];unfold Rq;dsimp only;rw[Ac,AW (IT.2 ⟨by dsimp only;omega,by dsimp only;split<;>omega,by dsimp only;split<;>omega⟩),a]
 have hboot:FP s n q=(⟨(Lh s n q).1,⟨⟨s.Log.Data.take u,(u:Int)⟩,s.DW,s.Odd⟩,(Lh s n q).2.1,[]⟩,true):=by
  unfold FP;rw[AW ⟨y,X⟩,G]
 have hE:(FP s n q).1.BH=⟨⟨s.Log.Data.take u,(u:Int)⟩,s.DW,s.Odd⟩:=by rw[hboot]
 rw[hE];have j:Fz ⟨s.Log.Data.take u,(u:Int)⟩=true:=IT.2 ⟨by dsimp only;omega,by dsimp only;omega,by dsimp only;omega⟩;have K:=oe I (s.Log.Data.length+1) ((s.Log.Data.take u).length+1) 0 q.2.1 (by omega) (by rw[<-Y,hU];rfl) (by omega) (by omega);obtain⟨K1,K2⟩:=K;have L:∀k,E7 (⟨⟨s.Log.Data.take u,(u:Int)⟩,s.DW,s.Odd⟩:BZ) k=E7 s k:=fun k=>rfl
 obtain⟨g,q',R'⟩:=yw ⟨⟨s.Log.Data.take u,(u:Int)⟩,s.DW,s.Odd⟩;have e1:g=n:=by
  have:=zn (s:=s) (s':=⟨⟨s.Log.Data.take u,(u:Int)⟩,s.DW,s.Odd⟩) (R5 (L 0)) (R5 (L 1));rw[R'.sn,R.sn]at this;exact Option.some.inj this
 subst e1;have e2:q'=q:=by
  have:=R'.sr;rw[R5 (L g),R.sr]at this;exact(Option.some.inj this).symm
 subst e2;have st:II ⟨⟨s.Log.Data.take u,(u:Int)⟩,s.DW,s.Odd⟩=true:=by unfold II;simp[j,S,a3]
 have cl:Ni ⟨⟨s.Log.Data.take u,(u:Int)⟩,s.DW,s.Odd⟩=true:=by unfold Ni;simp[Z,k3];omega
 have e:Lh ⟨⟨s.Log.Data.take u,(u:Int)⟩,s.DW,s.Odd⟩ g q'=Lh s g q':=by
  rw[u3];unfold Lh;rw[AW ⟨st,O⟩];show ((Ge (notes (aft q'.2.1 (frs _ (s.Log.Data.take u) 0))) q'.1).1,q'.2.1+((notes (aft q'.2.1 (frs _ (s.Log.Data.take u) 0))).length:Int),true)=_;rw[K2];rfl
 have J:MT ⟨⟨s.Log.Data.take u,(u:Int)⟩,s.DW,s.Odd⟩ g q'=u:=by
  unfold MT;rw[AW ⟨st,O⟩];exact K1
 have E:Rq (Td ⟨s.Log.Data.take u,(u:Int)⟩ u).1=⟨s.Log.Data.take u,(u:Int)⟩:=by
  unfold Td;rw[AW ⟨j,CA.2 (by dsimp only;omega)⟩];dsimp only;rw[Ac,List.take_take,Nat.min_self,AR (by omega)];unfold Rq;rw[AW j];dsimp only;rw[a]
 refine⟨fun l=>?_,?_,?_,?_⟩
 .unfold HA;dsimp only;rw[NT j (by dsimp only;omega),NT S Z,NT a3 k3]
 .rw[(AV5 (s:=⟨⟨s.Log.Data.take u,(u:Int)⟩,s.DW,s.Odd⟩) (by dsimp only;omega) he ho R').2.1,hboot];unfold FP;rw[e,J,AW ⟨y,cl⟩,E]
 .dsimp only;omega
 .dsimp only;rw[a];exact K1
theorem AZK{s:List UInt8}(c:s.length<=1048576):Wp s=some (match (Dx s).getLast? with|none=>0|some f=>f.Next):=by
 unfold Wp;have a:=J6 s;rw[Od c,AB,Bi];cases h:Dx s with
 |nil=>simp|cons f l=>
  rw[h]at a;rw[AR (by simp;omega),A2 (by omega) (by omega)];have e:(((f::l).length:Int)-1)=((l.length:Nat):Int):=by simp
  rw[e,BG (show l.length<(f::l).length by simp),AB,AB,List.getLast?_eq_getElem?];simp
def sU:Int->List Br->Int|e,[]=>e|_,f::l=>sU f.Next l
theorem ADp:∀(l:List Br) (e:Int),sU e l=match l.getLast? with|none=>e|some f=>f.Next
 | [],e=>rfl|f::l,e=>by
  unfold sU;rw[ADp l,List.getLast?_cons];cases l.getLast? <;> rfl
theorem ae{L:Int}:∀(l:List Br) (v e:Int),Ch L e l->used v e l=L->sU e l=L
 | [],v,e,_,h=>h|f::l,v,e,a,h=>by
  unfold used at h;unfold sU;split at h
  .exact ae l _ _ a.2.2 h
  .split at h
   .exact ae l _ _ a.2.2 h
   .have:=a.1;have:=a.2.1;omega
theorem AZ9{s:List UInt8}(c:s.length<=1048576){v:Int}(h:used v 0 (Dx s)=s.length):DH s=some false:=by
 unfold DH;have a:sU 0 (Dx s)=s.length:=ae _ _ _ (ZK s _ _) h;rw[AZK c,AB,<-ADp (Dx s) 0,a];simp
theorem AXN{c:Ax}(g:C6 c):∃x,ACi c=some x/\Sml 40000 x.1/\C6 x.2:=by
 unfold ACi AbX;obtain⟨e,ee,⟨fe,_,s1,h,j⟩,ce⟩:=AMp g;obtain⟨k,ek,_,_,_,ck⟩:=DI ce 8;rw[ee,AB,ek,AB,Bi];split
 .obtain⟨z,ez,lz,cz⟩:=AIz ck (l:=e.1.BH.DW.Data) fe.even;rw[ez,AB,AV];exact⟨_,rfl,⟨by dsimp only;omega,by dsimp only;omega,by dsimp only;omega⟩,cz⟩
 rw[Bi];split
 .rw[AV];exact⟨_,rfl,⟨by dsimp only;omega,by dsimp only;omega,by dsimp only;omega⟩,ck⟩
 rw[Bi];split
 .obtain⟨z,ez,_,_,_,cz⟩:=DI ck (w64 ((e.1.BH.DW.Data.length:Int)+1));rw[ez,AB,AV];exact⟨_,rfl,⟨by dsimp only;omega,by dsimp only;omega,by dsimp only;omega⟩,cz⟩
 rw[Bi];split
 .unfold AKr;obtain⟨a,ea,la,ca⟩:=AVP ck;obtain⟨b,eb,lb,cb⟩:=AVP ca;obtain⟨d,ed,ld,cd⟩:=AVP cb;rw[ea,AB,eb,AB,ed,AB,AB,AV];exact⟨_,rfl,⟨by dsimp only;omega,by dsimp only;omega,by dsimp only;omega⟩,cd⟩
 rw[Bi];split<;>rw[AV]<;>exact⟨_,rfl,⟨by dsimp only;omega,by dsimp only;omega,by dsimp only;omega⟩,ck⟩
theorem AZ4{c:Ax}(a:C6 c):∃x,re c=some x/\C6 x.2:=by
 unfold re;obtain⟨k,ek,_,_,_,ck⟩:=DI a 12;rw[ek,AB,Bi];split
 .exact⟨_,rfl,ck⟩
 rw[Bi];split
 .obtain⟨y,ey,_,cy⟩:=oS ck 60 (by omega);rw[show (60:Int)=((60:Nat):Int) from rfl,ey,AB];exact⟨_,rfl,cy⟩
 rw[Bi];split
 .obtain⟨y,ey,_,cy⟩:=oS ck 61 (by omega);rw[show (61:Int)=((61:Nat):Int) from rfl,ey,AB];exact⟨_,rfl,cy⟩
 .obtain⟨x,ex,g,_,h,cx⟩:=DI ck 6;have:=h (by omega);obtain⟨m,j⟩:=AX g;obtain⟨y,ey,_,cy⟩:=oS cx (m+1) (by omega);have e:w64 (1+x.1)=((m+1:Nat):Int):=by rw[A2 (by omega) (by omega)];omega
  rw[ex,AB,e,ey,AB];exact⟨_,rfl,cy⟩
theorem AZC{c:Ax}(j:C6 c):∃x,ALN c=some x/\C6 x.2:=by
 unfold ALN;obtain⟨k,ek,y,_,B,ck⟩:=DI j 5;have:=B (by omega);obtain⟨n,q⟩:=AX y;rw[ek,AB];refine Pz (n:=n) (fun i (v:List Int×Ax)=>(v.1,(i:Int),v.2)) (fun i v=>v.1.length=i/\C6 v.2) (fun x:List Int×Ax=>C6 x.2) (by omega) ?_ (v:=([],k.2)) ⟨rfl,ck⟩;rintro L i ⟨l,c⟩ ⟨e,a⟩ hi h;unfold Agd Agc;dsimp only at e a h ⊢;rw[q,dec_lt];rcases Nat.lt_or_ge i n with g|g
 .obtain⟨x,ex,cx,_⟩:=Yg a (l:=[0,1,2,5,30,-1,9223372036854775807,-9223372036854775808]) (by simp);rw[decide_eq_true g,BP,ex,AB,B8 (by simp only[List.length_cons,List.length_nil];unfold lim;omega),Bn g (by omega)];exact h (_,_) ⟨by simp[e],cx⟩ g
 .rw[decide_eq_false (by omega),Bb,AV];exact⟨_,rfl,a⟩
theorem AVR{c:Ax}(a:C6 c):∃x,rf c=some x/\Sml 60000 x.1:=by
 have g:∀c s,C6 c->Sml 40000 s->∃x,kN (c,s)=some x/\Sml 60000 x.1:=by
  rintro c s a ⟨s1,h,j⟩;unfold kN AcX;dsimp only;obtain⟨k,ek,_,_,_,ck⟩:=DI a 8;rw[ek,AB,Bi];split
  .obtain⟨x,ex,_,_,_,cx⟩:=DI ck 20;obtain⟨y,ey,cy⟩:=AZ4 cx;have q:=vS (w64 (1+x.1)) y.1;rw[ex,AB,ey,AB,Kz,AB,B8 (by unfold Mn;omega),AV];exact⟨_,rfl,by simp only[List.length_append];omega,by dsimp only;omega,by dsimp only;omega⟩
  rw[Bi];split
  .obtain⟨z,ez,lz,cz⟩:=AIz ck (l:=s.Log.Data) (by omega);rw[ez,AB,AV];exact⟨_,rfl,by dsimp only;omega,by dsimp only;omega,by dsimp only;omega⟩
  rw[Bi];split
  .obtain⟨x,ex,⟨t1,t2,t3⟩,cx⟩:=AXN ck;rw[ex,AB];exact⟨_,rfl,by dsimp only;omega,by dsimp only;omega,by dsimp only;omega⟩
  .rw[AV];exact⟨_,rfl,by dsimp only;omega,by dsimp only;omega,by dsimp only;omega⟩
 unfold rf;obtain⟨e,ee,⟨fe,_,s1,h,j⟩,ce⟩:=AMp a;obtain⟨o,eo,co⟩:=U4 ce 4;rw[ee,AB,eo,AB,Bi];split
 .obtain⟨k,ek,ck⟩:=AZC co;rw[ek,AB,TW,AB,AV];have B:=NS e.1.BH.Log (k.1.getD 0 0);have E:=NS e.1.BH.DW (k.1.getD 1 0);have G:=NS e.1.BH.Odd (k.1.getD 2 0);exact g _ _ ck ⟨by unfold HA;dsimp only;omega,by unfold HA;dsimp only;omega,by unfold HA;dsimp only;omega⟩
 .rw[AV];exact g _ _ co ⟨by omega,by omega,by omega⟩
theorem APh{s:List UInt8}(e:s.length<=1048576):∃x,Rk s=some x/\Sml 60000 x:=by
 unfold Rk;obtain⟨c,ec,a⟩:=AZ7 e;obtain⟨x,ex,sx⟩:=AVR a;rw[ec,AB,ex,AB];exact⟨_,rfl,sx⟩
theorem AUz{s:BZ}{k:Int}{r:AE×Int×Bool}(h:ABn s k=some r)(c:r.2.2=true):DD r.1=true:=by
 unfold ABn at h;rw[JF,AB,HH,AB,BK]at h;cases a:Fz (E7 s k) with
 |false=>rw[a,Bb]at h;cases h;cases c
 |true=>
  have j:=IT.1 a;rw[a,BP,B8 j.2]at h;obtain⟨q,e,y,g⟩:=Lq (s:=List.take (E7 s k).Safe.toNat (E7 s k).Data) (by rw[BL];omega);rw[e,AB]at h;cases h;exact(g.yes c).1
theorem cO{s:List UInt8}(_:okL okT s):H6 s=some true:=by
 unfold H6 EE;rw[ADr,AB,BQ];split
 .rfl
 obtain⟨x,ex,s1,S,X⟩:=APh (s:=s) (by omega);obtain⟨n,q,R⟩:=yw x;obtain⟨y,B,g⟩:=AV5 (by omega) (by omega) (by omega) R;obtain⟨k,ek,_⟩:=AbI (s:=s) (by omega) 1 (by omega);rw[show ((1:Nat):Int)=1 from rfl]at ek;rw[ex,AB,B,AB,y,AB];cases a:(FP x n q).2 with
 |false=>
  have:(FP x n q).1=zk:=by
   unfold FP at a ⊢;split
   .rename_i c;rw[AW c]at a;cases a
   .rfl
  rw[this];simp[Bi,a];rfl
 |true=>
  obtain⟨E,G,H,I⟩:=AFJ (by omega) (by omega) (by omega) R a;have L:(FP x n q).1.BH.Log.Data.length<=1048576:=g.log;have J:DD (FP x n q).1.BO=true:=by
   unfold FP at a ⊢;split
   .rename_i c;obtain⟨Y,Z,Q⟩:=AEX c.1;rw[Q];dsimp only;have O:q.2.2=true:=by
     obtain⟨m,j,_,e⟩:=QY x;rw[R.sn]at j;cases j;rcases e with h|h|h
     .omega
     .subst h;exact Two.bd3 (n:=0) (k:=1) (.inl ⟨rfl,rfl⟩) R.sn R.sr
     .subst h;exact Two.bd3 (n:=1) (k:=0) (.inr ⟨rfl,rfl⟩) R.sn R.sr
    exact GW.2 (ADG _ (GW.1 (AUz R.sr O))).1
   .rename_i c;rw[AR c]at a;cases a
  simp only[ek,AB,S4,E,G,Ce,IY,nq g.EY J,AZ9 L I,sO (show x.Log.Data.length<=1048576 by omega) R];simp[Bi,AV,a,H]
end Lv.P
