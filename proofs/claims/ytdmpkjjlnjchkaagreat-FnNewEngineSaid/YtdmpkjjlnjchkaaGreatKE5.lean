/- Functions of the program as typed texts and as plain functions. -/
import Derived.Test.YtdmpkjjlnjchkaaGreatKD5
noncomputable section
set_option linter.unusedVariables false
set_option linter.unusedSimpArgs false
set_option linter.unusedSectionVars false
set_option maxRecDepth 100000
namespace Lv
open Go (IntKind BinOp UnOp)
open Y (YF qn qf qt qr q1 qd qm qa qo ql qL qb qi qx qp qq qc qz qe qk qK qB qw qu qj Kp wn wf wt w1 sw sq sr wm wM wo wO wl wL wk wK wz wZ wx wX wb wB wi wI wr wR wq wQ we wE wc wY wj wh cv ca cx cn ce bl)
def BGZ(a:AD)(c:Int):AA Int:=bd (BHt a.AG c) fun e=>some e
def BHK(a:AD)(c:Int):AA Int:=bd (at? a.AI c) fun e=>bd (at? a.AI c) fun g=>some (w64 (e.AV.Ep-g.AV.E8))
def BHw(a:AD)(c:Bool):AA Int:=br c (some 10) (br (decide (a.Ap>1000000)) (some 11) (some 0))
def BGx(a:AD)(c:BX)(e:Bool):AA Int:=br e (some 4) (bd (AUr c.A2 1 a.AO.A2) fun g=>br (!g) (some 5) (br (decide (c.Cj>=a.AO.CJ)) (some 6) (bd (AUr c.Id 1 999) fun h=>br (!h) (some 7) (bd (BGZ a c.Id) fun j=>br (decide (j>=0)) (some 8) (bd (oI a.AG c.Aa) fun q=>br (decide (q>=a.AO.Room)) (some 9) (br (decide (c.Bl>=0)) (bd (BHK a c.Bl) fun y=>jn (BHw a) (decide (y<c.A2))) (jn (BHw a) false)))))))
def BI7(c:AD)(a:BX):AA Int:=br (decide (a.Aa>=(↑c.AI.length:Int))) (jn (BGx c a) true) (br (decide (a.Bl>=(↑c.AI.length:Int))) (jn (BGx c a) true) (jn (BGx c a) (a.Bl==a.Aa)))
def BJK(a:Bool):AA Bool:=some a
def BJl(a:AK)(c:Int):AA Bool:=br (a.State==2) (jn BJK (decide (a.Cf<=c))) (jn BJK false)
def BIB(a:AD)(e:Int):AA Int:=bd (BGZ a e) fun c=>br (decide (c<0)) (some 7) (bd (at? a.AG c) fun g=>br (g.State != 2) (some 13) (bd (at? a.AG c) fun h=>bd (BJl h a.Now) fun j=>br j (some 14) (some 0)))
def BGm(_:PUnit):AA Int:=some 0
def BHs(a:Bool):AA Int:=br a (some 17) (jn BGm ())
def BHr(a:AD)(c:BX)(g:Bool):AA Int:=br g (bd (BIB a c.Id) fun h=>some h) (br (c.Kind==6) (br (decide (a.Now>=1000000)) (some 15) (jn BGm ())) (br (c.Kind==7) (br (decide (c.Id>=a.AO.Cs)) (some 16) (bd (at? a.A8 c.Id) fun e=>br (decide (e<0)) (jn BHs ((↑a.BC.length:Int)==0)) (jn BHs false))) (jn BGm ())))
def BGf(c:AD)(a:BX):AA Int:=bd (Kr c) fun e=>br (!e) (some 1) (bd (AUr a.Kind 1 7) fun g=>br (!g) (some 2) (bd (z8 a) fun h=>br (!h) (some 3) (br (a.Kind==1) (bd (BI7 c a) fun j=>some j) (br (a.Kind==2) (bd (BGZ c a.Id) fun q=>br (decide (q<0)) (some 7) (jn BGm ())) (br (a.Kind==3) (br (decide (a.Aa>=(↑c.AI.length:Int))) (some 4) (bd (AUr a.A2 1 60) fun y=>br (!y) (some 5) (bd (BHK c a.Aa) fun B=>br (decide (B<a.A2)) (some 12) (jn BGm ())))) (br (a.Kind==4) (jn (BHr c a) (a.Kind==4)) (jn (BHr c a) (a.Kind==5))))))))
def BGy(a:AD)(c:AK):AA AD:=bd (Adf a.AO c a.Now) fun g=>bd (at? a.AI c.Aa) fun q=>bd (at? a.AI c.Aa) fun h=>bd (Afp h.Row g.fst) fun j=>bd (at? a.AI c.Aa) fun y=>bd (at? a.AI c.Aa) fun e=>some (AD.mk a.AO a.Now a.Ap a.AG (a.AI.set c.Aa.toNat (AY.mk e.AV j e.Bw)) a.BC a.A8)
def BIE(a:A9)(c:Int)(e:Int)(g:Int)(h:Int)(j:Int)(q:Bool):AA (A9×Bool):=br q (some (a,false)) (bd (Afm (A9.mk a.Total (w64 (a.DT+w64 (e*c))) (w64 (a.EH+w64 (g*c))) (w64 (a.Ep+w64 (h*c))) (w64 (a.E8+w64 (j*c))))) fun y=>br (!y) (some (a,false)) (some ((A9.mk a.Total (w64 (a.DT+w64 (e*c))) (w64 (a.EH+w64 (g*c))) (w64 (a.Ep+w64 (h*c))) (w64 (a.E8+w64 (j*c))),true))))
def BGp(a:A9)(c:Int)(e:Int)(g:Int)(h:Int)(j:Int):AA (A9×Bool):=bd (Afm a) fun q=>br (!q) (jn (BIE a c e g h j) true) (bd (AUr c 0 60) fun y=>jn (BIE a c e g h j) (!y))
def BIQ(c:A9)(e:Int):AA (A9×Bool):=bd (BGp c e 0 0 0 1) fun a=>some (a.fst,a.snd)
def BIY(e:Int)(a:AD):AA (AD×Int):=bd (BGk a.BC e) fun c=>some (AD.mk a.AO a.Now a.Ap a.AG a.AI c a.A8,0)
def BJa(e:AD)(q:Int)(h:Int)(c:Int)(j:Int)(y:Int):AA (AD×Int):=bd (BGc e) fun g=>bd (BGf e (BX.mk 1 q h c j y)) fun B=>br (B != 0) (some (g,B)) (bd (BGt g.AG (AK.mk q h c j y e.Now e.Ap 1 0 0)) fun G=>bd (BGy (AD.mk g.AO g.Now (w64 (e.Ap+1)) G g.AI g.BC g.A8) (AK.mk q h c j y e.Now e.Ap 1 0 0)) fun a=>br (decide (c>=0)) (bd (at? a.AI c) fun J=>bd (at? a.AI c) fun H=>bd (BIQ H.AV j) fun I=>bd (at? a.AI c) fun L=>bd (at? a.AI c) fun E=>jn (BIY h) (AD.mk a.AO a.Now a.Ap a.AG (a.AI.set c.toNat (AY.mk I.fst E.Row E.Bw)) a.BC a.A8)) (jn (BIY h) a))
def BH8(c:A9)(e:Int):AA (A9×Bool):=bd (BGp c e 1 (-1) 0 0) fun a=>some (a.fst,a.snd)
def BIh(a:An)(_:PUnit):AA (An×Bool):=some (a,false)
def BG1(g:An)(c:A6)(h:An)(y:Int->AA (An×Bool))(a:Int):AA (An×Bool):=bd (at? g.Ak (c.At.tmod 9)) fun G=>br (decide (a<(↑(List.length G):Int))) (bd (at? g.Ak (c.At.tmod 9)) fun H=>bd (at? H a) fun q=>br (q.At==c.At&&(q.Id==c.Id&&true)) (bd (at? g.Ak (c.At.tmod 9)) fun j=>gd (0<=a/\a<=(↑(List.length j):Int)) (bd (at? g.Ak (c.At.tmod 9)) fun e=>gd (0<=w64 (a+1)/\w64 (a+1)<=(↑(List.length e):Int)) (gd (0+(List.take a.toNat j).length<=lim) (gd (([]++List.take a.toNat j).length+(List.drop (w64 (a+1)).toNat e).length<=lim) (bd (at? h.Ak (c.At.tmod 9)) fun B=>bd (at? h.Ak (c.At.tmod 9)) fun E=>some ((An.mk (h.Ak.set (c.At.tmod 9).toNat ([]++List.take a.toNat j++List.drop (w64 (a+1)).toNat e)),true))))))) (y (w64 (a+1)))) (jn (BIh h) ())
def BHP(c:An)(e:A6)(a:An)(g:Bool):AA (An×Bool):=br g (some (a,false)) (A4 (BG1 c e a) big 0)
def BG3(a:An)(c:A6):AA (An×Bool):=bd (BG6 a) fun e=>bd (Adc a) fun g=>br (!g) (jn (BHP a c e) true) (jn (BHP a c e) (decide (c.At<1)))
def BGz(a:AD)(c:AK):AA AD:=bd (at? a.AI c.Aa) fun j=>bd (at? a.AI c.Aa) fun e=>bd (BH8 e.AV c.A2) fun g=>bd (BG3 e.Bw (A6.mk c.Cf c.Id)) fun h=>bd (at? a.AI c.Aa) fun q=>bd (at? a.AI c.Aa) fun y=>gd (Y.Od (c.Aa).toNat 0 7 [(c.Aa.toNat,4+1)]) (some (AD.mk a.AO a.Now a.Ap a.AG (a.AI.set c.Aa.toNat (AY.mk g.fst e.Row h.fst)) a.BC a.A8))
def BGu(c:List Ad)(g:Int):AA ((List Ad)×Bool):=bd (Ada c g) fun a=>br (decide (a<0)) (bd (Afo c) fun h=>some (h,false)) (gd (0<=a/\a<=(↑c.length:Int)) (gd (0<=w64 (a+1)/\w64 (a+1)<=(↑c.length:Int)) (bd (Afo (List.take (Int.toNat a) c)) fun e=>gd (List.length e+(List.drop (w64 (a+1)).toNat c).length<=lim) (some ((e++List.drop (w64 (a+1)).toNat c,true))))))
def BIO(a:List AK)(e:Int):AA (List AK):=bd (BHt a e) fun c=>br (decide (c<0)) (gd (0+a.length<=lim) (some ([]++a))) (gd (0<=c/\c<=(↑a.length:Int)) (gd (0<=w64 (c+1)/\w64 (c+1)<=(↑a.length:Int)) (gd (0+(List.take (Int.toNat c) a).length<=lim) (gd (([]++List.take (Int.toNat c) a).length+(List.drop (w64 (c+1)).toNat a).length<=lim) (some ([]++List.take (Int.toNat c) a++List.drop (w64 (c+1)).toNat a))))))
def BHp(c:A9)(e:Int):AA (A9×Bool):=bd (BGp c e 0 0 0 (-1)) fun a=>some (a.fst,a.snd)
def BHx(a:AD):AA AD:=some a
def BGh(a:AD)(c:AK):AA AD:=bd (BIO a.AG c.Id) fun e=>br (decide (c.Bl>=0)) (bd (at? a.AI c.Bl) fun q=>bd (at? a.AI c.Bl) fun h=>bd (BHp h.AV c.A2) fun j=>bd (at? a.AI c.Bl) fun y=>bd (at? a.AI c.Bl) fun g=>jn (BHx) (AD.mk a.AO a.Now a.Ap e (a.AI.set c.Bl.toNat (AY.mk j.fst g.Row g.Bw)) a.BC a.A8)) (jn BHx (AD.mk a.AO a.Now a.Ap e a.AI a.BC a.A8))
def BHD(e:AK)(c:AD):AA (AD×Int):=bd (BGh c e) fun a=>some (a,0)
def BJG(g:AD)(j:Int):AA (AD×Int):=bd (BGc g) fun a=>bd (BGf g (BX.mk 2 j 0 0 0 0)) fun B=>br (B != 0) (some (a,B)) (bd (BGZ g j) fun H=>bd (at? g.AG H) fun c=>bd (BGZ g j) fun I=>bd (at? g.AG I) fun J=>MF c J (br (c.State==2) (bd (BGz a c) fun e=>bd (BGk e.BC c.Aa) fun L=>jn (BHD c) (AD.mk e.AO e.Now e.Ap e.AG e.AI L e.A8)) (bd (at? a.AI c.Aa) fun E=>bd (at? a.AI c.Aa) fun q=>bd (BGu q.Row j) fun y=>bd (at? a.AI c.Aa) fun G=>bd (at? a.AI c.Aa) fun h=>jn (BHD c) (AD.mk a.AO a.Now a.Ap a.AG (a.AI.set c.Aa.toNat (AY.mk h.AV y.fst h.Bw)) a.BC a.A8))))
def BH9(c:A9)(e:Int):AA (A9×Bool):=bd (BGp c e 1 0 (-1) 0) fun a=>some (a.fst,a.snd)
def BHB(a:AD)(c:Int)(g:Int):AA AD:=bd (at? a.AI c) fun y=>bd (at? a.AI c) fun h=>bd (BH9 h.AV g) fun j=>bd (at? a.AI c) fun B=>bd (at? a.AI c) fun e=>bd (BGk a.BC c) fun q=>some (AD.mk a.AO a.Now a.Ap a.AG (a.AI.set c.toNat (AY.mk j.fst e.Row e.Bw)) q a.A8)
def BH6(a:AD)(c:Int)(e:Int):AA (AD×Int):=bd (BGc a) fun g=>bd (BGf a (BX.mk 3 0 c 0 e 0)) fun h=>br (h != 0) (some (g,h)) (bd (BHB g c e) fun j=>some (j,0))
def BIA(c:A9)(e:Int):AA (A9×Bool):=bd (BGp c e 0 (-1) 1 0) fun a=>some (a.fst,a.snd)
def BH3(a:AD):AA (AD×Int):=some (a,0)
def BJF(e:AD)(h:Int):AA (AD×Int):=bd (BGc e) fun c=>bd (BGf e (BX.mk 4 h 0 0 0 0)) fun B=>br (B != 0) (some (c,B)) (bd (BGZ e h) fun H=>bd (at? e.AG H) fun a=>bd (BGZ e h) fun I=>bd (at? e.AG I) fun J=>MF a J (bd (at? c.AI a.Aa) fun O=>bd (at? c.AI a.Aa) fun y=>bd (BIA y.AV a.A2) fun L=>bd (BG3 y.Bw (A6.mk a.Cf a.Id)) fun j=>bd (at? c.AI a.Aa) fun E=>bd (at? c.AI a.Aa) fun G=>gd (Y.Od (a.Aa).toNat 0 7 [(a.Aa.toNat,4+1)]) (bd (BGh (AD.mk c.AO c.Now c.Ap c.AG (c.AI.set a.Aa.toNat (AY.mk L.fst y.Row j.fst)) c.BC c.A8) a) fun g=>br (decide (a.Bl>=0)) (bd (BHB g a.Bl a.A2) fun q=>jn (BH3) q) (jn BH3 g))))
def BHE(c:AZ)(a:AK)(e:Int)(g:Bool):AA (AK×Bool):=br g (some (AK.mk 0 0 0 0 0 0 0 0 0 0,false)) (some ((AK.mk a.Id a.Aa a.Bl a.A2 a.Cj a.Since a.Ap 1 (w64 (e+c.Rest)) (w64 (a.Cu+1)),true)))
def BIF(c:AZ)(a:AK)(e:Int):AA (AK×Bool):=bd (Afj c a e) fun g=>br (!g) (jn (BHE c a e) true) (br (a.State != 2) (jn (BHE c a e) true) (jn (BHE c a e) (decide (w64 (a.Cu+1)>=c.CL))))
def BG4(g:AD)(c:AK):AA AD:=bd (BGz g c) fun a=>bd (BIF a.AO c a.Now) fun e=>br (!e.snd) (bd (BGh a c) fun h=>some h) (bd (BGt a.AG e.fst) fun j=>bd (BGy (AD.mk a.AO a.Now a.Ap j a.AI a.BC a.A8) e.fst) fun q=>some q)
def BIV(c:AD)(e:Int):AA (AD×Int):=bd (BGc c) fun h=>bd (BGf c (BX.mk 5 e 0 0 0 0)) fun j=>br (j != 0) (some (h,j)) (bd (BGZ c e) fun q=>bd (at? c.AG q) fun g=>bd (BGZ c e) fun y=>bd (at? c.AG y) fun B=>MF g B (bd (BG4 h g) fun a=>bd (BGk a.BC g.Aa) fun E=>some (AD.mk a.AO a.Now a.Ap a.AG a.AI E a.A8,0)))
def BIc(c:(Int×AD)->AA (AD×Int))(e:Int)(a:AD):AA (AD×Int):=c ((w64 (e+1),a))
def BJw(a:AD):AA (AD×Int):=some (a,0)
def BHq(h:(Int×AD)->AA (AD×Int))(y:(Int×AD)):AA (AD×Int):=match y with |(c,a)=>br (decide (c<(↑a.AI.length:Int))) (bd (Adg a.AO a.AG c a.Now) fun j=>bd (at? a.AI c) fun B=>bd (at? a.AI c) fun e=>bd (oI a.AG c) fun q=>br (decide (q>0)) (bd (BGk a.BC c) fun g=>jn (BIc h c) (AD.mk a.AO a.Now a.Ap a.AG (a.AI.set (Int.toNat c) (AY.mk e.AV j e.Bw)) g a.A8)) (jn (BIc h c) (AD.mk a.AO a.Now a.Ap a.AG (a.AI.set (Int.toNat c) (AY.mk e.AV j e.Bw)) a.BC a.A8))) (jn BJw a)
def BJe(c:AD):AA (AD×Int):=bd (BGc c) fun a=>bd (BGf c (BX.mk 6 0 0 0 0 0)) fun e=>br (e != 0) (some (a,e)) (A4 (BHq) big ((0,AD.mk a.AO (w64 (c.Now+1)) a.Ap a.AG a.AI a.BC a.A8)))
def BIS(a:Bool):AA Bool:=some a
def BJm(a:AD)(c:Int):AA Bool:=bd (Kr a) fun e=>br e (bd (AUr c 0 (w64 ((↑a.AI.length:Int)-1))) fun g=>jn (BIS) g) (jn BIS false)
def BHl(a:((List A6)×Int)->AA (List A6))(c:Int)(e:List A6):AA (List A6):=a ((e,w64 (c+1)))
def BJA(a:List A6):AA (List A6):=some a
def BHm(j:Int)(c:List A6)(g:((List A6)×Int)->AA (List A6))(y:((List A6)×Int)):AA (List A6):=match y with |(e,a)=>br (decide (a<(↑(List.length c):Int))) (bd (at? c a) fun B=>bd (at? c a) fun q=>br (decide (q.At<=j)) (bd (at? c a) fun E=>bd (at? c a) fun h=>gd (List.length e+[h].length<=lim) (jn (BHl g a) (e++[h]))) (jn (BHl g a) e)) (jn BJA e)
def BHk(a:An)(c:Int):AA (List A6):=bd (Adi a) fun e=>A4 (BHm c e) big ([],0)
def BJO(a:List Int):AA (List Int):=some a
def BIC(e:List A6)(h:((List Int)×Int)->AA (List Int))(j:((List Int)×Int)):AA (List Int):=match j with |(c,a)=>br (decide (a<(↑(List.length e):Int))) (bd (at? e a) fun q=>bd (at? e a) fun g=>gd (List.length c+[g.Id].length<=lim) (h ((c++[g.Id],w64 (a+1))))) (jn BJO c)
def BJL(a:AD)(c:Int):AA (List Int):=bd (at? a.AI c) fun e=>bd (BHk e.Bw a.Now) fun g=>A4 (BIC g) big ([],0)
def BIT(a:AD):AA AD:=some a
def BHI(e:List Int)(j:(Int×AD)->AA AD)(B:(Int×AD)):AA AD:=match B with |(c,a)=>br (decide (c<(↑(List.length e):Int))) (bd (at? e c) fun E=>bd (at? e c) fun q=>bd (BGZ a q) fun h=>bd (at? a.AG h) fun G=>bd (at? a.AG h) fun y=>bd (BG4 a y) fun g=>j ((w64 (c+1),g))) (jn BIT a)
def BID(a:AD)(c:Int):AA AD:=bd (BJL a c) fun e=>A4 (BHI e) big (0,a)
def BHn(a:Bool):AA Bool:=some a
def BIa(a:AK)(c:Int):AA Bool:=br (a.State==1) (jn BHn (decide (a.Cf>c))) (jn BHn false)
def BHL(c:Int->AA Int)(a:Int)(e:Bool):AA Int:=br e (some a) (c (w64 (a+1)))
def BIW(_:PUnit):AA Int:=some (-1)
def BHM(c:List Ad)(g:Int)(h:List Int)(e:Int->AA Int)(a:Int):AA Int:=br (decide (a<(↑c.length:Int))) (bd (at? c a) fun j=>br (decide (j.A2<=g)) (bd (at? c a) fun q=>bd (Afl h q.Id) fun y=>jn (BHL e a) (!y)) (jn (BHL e a) false)) (jn BIW ())
def BIN(a:List Ad)(c:Int)(e:List Int):AA Int:=A4 (BHM a c e) big 0
def BHz(a:((List Int)×Int)->AA Int)(c:Int)(e:List Int):AA Int:=a ((e,w64 (c+1)))
def BH0(c:AD)(e:Int)(q:List Int):AA Int:=bd (at? c.AI e) fun y=>bd (at? c.AI e) fun g=>bd (BIN y.Row g.AV.DT q) fun a=>br (decide (a<0)) (some 0) (bd (at? c.AI e) fun h=>bd (at? h.Row a) fun j=>some j.Id)
def BH1(a:AD)(j:Int)(g:((List Int)×Int)->AA Int)(B:((List Int)×Int)):AA Int:=match B with |(e,c)=>br (decide (c<(↑a.AG.length:Int))) (bd (at? a.AG c) fun q=>bd (BIa q a.Now) fun y=>br y (bd (at? a.AG c) fun h=>gd (List.length e+[h.Id].length<=lim) (jn (BHz g c) (e++[h.Id]))) (jn (BHz g c) e)) (jn (BH0 a j) e)
def BHy(a:AD)(c:Int):AA Int:=A4 (BH1 a c) big ([],0)
def BHG(c:A9)(e:Int):AA (A9×Bool):=bd (BGp c e (-1) 1 0 0) fun a=>some (a.fst,a.snd)
def BIR(a:AD)(g:Int):AA (AD×Int):=bd (BHy a g) fun h=>br (h==0) (some (a,0)) (bd (BGZ a h) fun B=>bd (at? a.AG B) fun L=>bd (at? a.AG B) fun c=>bd (BGZ a h) fun E=>bd (at? a.AG E) fun O=>bd (at? a.AG E) fun I=>MF c I (bd (BGt a.AG (AK.mk c.Id c.Aa c.Bl c.A2 c.Cj c.Since c.Ap 2 (w64 (a.Now+a.AO.Bq)) c.Cu)) fun J=>bd (at? a.AI g) fun Q=>bd (at? a.AI g) fun e=>bd (BHG e.AV c.A2) fun j=>bd (BGu e.Row h) fun q=>bd (BGv e.Bw (A6.mk (w64 (a.Now+a.AO.Bq)) h)) fun y=>bd (at? a.AI g) fun G=>bd (at? a.AI g) fun H=>some ((AD.mk a.AO a.Now a.Ap J (a.AI.set g.toNat (AY.mk j.fst q.fst y.fst)) a.BC a.A8,h))))
def BHe(a:AD)(g:Int):AA (PUnit×Int):=bd (BHy a g) fun e=>br (e==0) (some (((),0))) (bd (BGZ a e) fun y=>bd (at? a.AG y) fun c=>bd (BGZ a e) fun B=>bd (at? a.AG B) fun E=>MF c E (bd (BGt a.AG (AK.mk c.Id c.Aa c.Bl c.A2 c.Cj c.Since c.Ap 2 (w64 (a.Now+a.AO.Bq)) c.Cu)) fun G=>bd (at? a.AI g) fun h=>bd (BHG h.AV c.A2) fun H=>bd (BGu h.Row e) fun I=>bd (BGv h.Bw (A6.mk (w64 (a.Now+a.AO.Bq)) e)) fun j=>bd (at? a.AI g) fun q=>none))
def BHo(g:Int)(j:((List Int)×AD)->AA (AD×(List Int)))(q:((List Int)×AD)):AA (AD×(List Int)):=match q with |(a,e)=>orX (bd (BIR e g) fun c=>br (c.snd==0) (none) (gd (List.length a+[c.snd].length<=lim) (j (a++[c.snd],c.fst)))) (bd (BHe e g) fun h=>br (h.snd==0) (some (e,a)) (gd (List.length a+[h.snd].length<=lim) (none)))
def BJc(c:AD)(a:Int):AA (AD×(List Int)):=bd (BGc c) fun e=>bd (BJm c a) fun g=>br (!g) (some (e,[])) (bd (BID e a) fun h=>A4 (BHo a) big ([],h))
def BJb(e:AD)(g:Int):AA (AD×Int×(List Int)):=bd (BGc e) fun c=>bd (BGf e (BX.mk 7 g 0 0 0 0)) fun h=>br (h != 0) (some (c,h,[])) (bd (at? e.A8 g) fun j=>br (decide (j<0)) (bd (at? e.BC 0) fun q=>bd (at? c.A8 g) fun y=>bd (at? c.A8 g) fun B=>gd ((0:Int)<=1/\1<=(↑e.BC.length:Int)) (gd (0+(List.drop (Int.toNat 1) e.BC).length<=lim) (some ((AD.mk c.AO c.Now c.Ap c.AG c.AI ([]++List.drop (Int.toNat 1) e.BC) (c.A8.set g.toNat q),0,[]))))) (bd (BJc e j) fun a=>bd (at? a.fst.A8 g) fun E=>bd (at? a.fst.A8 g) fun G=>some ((AD.mk a.fst.AO a.fst.Now a.fst.Ap a.fst.AG a.fst.AI a.fst.BC (a.fst.A8.set g.toNat (-1)),0,a.snd))))
def BGw(g:(Int×(List Int)×AD)):AA (AD×CE):=match g with |(a,c,e)=>some (e,CE.mk a c)
def BH4(c:AD)(a:BX):AA (AD×CE):=bd (BGc c) fun G=>bd (BGf c a) fun j=>br (j != 0) (some (G,CE.mk j [])) (br (a.Kind==1) (bd (BJa c a.Id a.Aa a.Bl a.A2 a.Cj) fun q=>jn (BGw) (q.snd,[],q.fst)) (br (a.Kind==2) (bd (BJG c a.Id) fun y=>jn (BGw) (y.snd,[],y.fst)) (br (a.Kind==3) (bd (BH6 c a.Aa a.A2) fun B=>jn (BGw) (B.snd,[],B.fst)) (br (a.Kind==4) (bd (BJF c a.Id) fun E=>jn (BGw) (E.snd,[],E.fst)) (br (a.Kind==5) (bd (BIV c a.Id) fun g=>jn (BGw) (g.snd,[],g.fst)) (br (a.Kind==6) (bd (BJe c) fun h=>jn (BGw) (h.snd,[],h.fst)) (bd (BJb c a.Id) fun e=>jn (BGw) (e.snd.fst,e.snd.snd,e.fst))))))))
def BJX(e:((List CE)×AD)):AA (AD×(List CE)):=match e with |(a,c)=>some (c,a)
def BIM(B:List BX)(G:((List CE)×Int×AD)->AA (AD×(List CE)))(H:((List CE)×Int×AD)):AA (AD×(List CE)):=match H with |(q,y,e)=>br (decide (y<(↑B.length:Int))) (bd (at? B y) fun j=>bd (BH4 e j) fun c=>NS c.fst c.fst (Cg c.snd c.snd (bd (BH4 e j) fun g=>bd (BH4 e j) fun E=>NS g.fst E.fst (Cg g.snd E.snd (bd (BH4 e j) fun a=>bd (BH4 e j) fun h=>NS a.fst h.fst (Cg a.snd h.snd (NS g.fst a.fst (Cg g.snd a.snd (NS c.fst g.fst (Cg c.snd g.snd (gd (List.length q+[c.snd].length<=lim) (G ((q++[c.snd],w64 (y+1),c.fst)))))))))))))) (jn BJX (q,e))
def BJV(a:AD)(c:List BX):AA (AD×(List CE)):=bd (BGc a) fun e=>A4 (BIM c) big ([],0,e)
end Lv
