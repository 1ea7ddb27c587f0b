/- Functions of the program as typed texts and as plain functions. -/
import Derived.Test.YtnjoipcemhflkaaGreatKIw
open List renaming length->an,take->ae,drop->aq
open Int renaming toNat->aQ
noncomputable section
set_option linter.unusedVariables false
set_option linter.unusedSimpArgs false
set_option linter.unusedSectionVars false
set_option maxRecDepth 100000
namespace Lv
open Go (IntKind BinOp UnOp)
open Y (YF qn qf qt qr q1 qd qm qa qo ql qL qb qi qx qp qq qc qz qe qk qK qB qw qu qj Kp wn wf wt w1 sw sq sr wm wM wo wO wl wL wk wK wz wZ wx wX wb wB wi wI wr wR wq wQ we wE wc wY wj wh cv ca cx cn ce bl)
def L0(a:List B6):AA (List B6):=some a
def I4(c:List B6)(j:List B6×Int->AA (List B6))(q:List B6×Int):AA (List B6):=let (e,a):=q;br (decide (a<c.length)) (bd (at? c a) fun h=>bd (at? c a) fun g=>gd (0+g.Ids.length<=lim) (gd (an e+[B6.mk h.Code ([]++g.Ids)].length<=lim) (j (e++[B6.mk h.Code ([]++g.Ids)],w64 (a+1))))) (jn L0 e)
def Il(a:List B6):AA (List B6):=BD (I4 a) big ([],0)
def Kb(a:Cf):AA Cf:=bd (ch a.Ao) fun c=>gd (0+a.GS.length<=lim) (bd (Il a.Dn) fun e=>bd (ch a.Ao) fun g=>gd (0+a.GS.length<=lim) (bd (Il a.Dn) fun h=>OI c g (eqv ([]++a.GS) ([]++a.GS) (eqv e h (eqv a.Iv a.Iv (some (Cf.mk c ([]++a.GS) e a.Iv)))))))
def SE(a:Cf)(h:List Int):AA (Cf×Int):=bd (Kb a) fun e=>bd (Nm a h) fun c=>bd (Eh c 0 (↑a.Ao.Laid.length:Int)) fun q=>br (!q) (some (e,21)) (bd (Aks a.Ao.BH h) fun y=>bd (AlL y) fun B=>gd (0<=c/\c<=a.Ao.Laid.length) (bd (MG a.Ao.BO (ae (aQ c) a.Ao.Laid)) fun g=>bd (MG a.Ao.BO (ae (aQ c) a.Ao.Laid)) fun j=>eqv g.snd j.snd (Jz g.fst j.fst (gd (0<=c/\c<=a.Ao.Laid.length) (gd (e.GS.length+(ae (aQ c) a.Ao.Laid).length<=lim) (gd (e.Dn.length+an g.snd<=lim) (some (Cf.mk B.fst (e.GS++ae (aQ c) a.Ao.Laid) (e.Dn++g.snd) (w64 (a.Iv+1)),0))))))))
def G8(e:Int×Cf):AA (Cf×Int):=let (a,c):=e;some (c,a)
def SD(c:Cf)(e:UQ):AA (Cf×Int):=bd (Kb c) fun a=>bd (Eh e.Kind 1 4) fun y=>br (!y) (some (a,26)) (bd (uc c.Ao) fun B=>br (!B) (some (a,21)) (br (e.Kind==1) (bd (Al4 c.Ao e.Req) fun j=>jn G8 (j.snd,Cf.mk j.fst a.GS a.Dn a.Iv)) (br (e.Kind==2) (bd (Alp c.Ao) fun g=>gd (a.GS.length+c.Ao.Laid.length<=lim) (gd (a.Dn.length+an g.snd<=lim) (jn G8 (0,Cf.mk g.fst (a.GS++c.Ao.Laid) (a.Dn++g.snd) a.Iv)))) (br (e.Kind==3) (bd (AlP c.Ao e.N_) fun h=>br (!h.snd) (jn G8 (25,Cf.mk h.fst a.GS a.Dn a.Iv)) (jn G8 (0,Cf.mk h.fst a.GS a.Dn a.Iv))) (bd (SE c e.R4) fun q=>some (q.fst,q.snd))))))
def AsW:YF:=⟨[],[.v (.l (.st 12))],[],.ret [(.l (.st 12))],[.tmp 2],dY ["6DeirkSMMoZ8KSfYPRNF1HzCvDvx2CIgc6C6ZiFFoBpBkqRXPoclT8RUukmaUkhvy9DJ3JVBdIfwB3KZ","UFp5q1rN"] [AFp]⟩
def ACo(a:List B6):AA (List B6):=some a
def jw(g:List B6)(j:List B6×Int->AA (List B6))(q:List B6×Int):AA (List B6):=let (a,c):=q;br (decide (c<g.length)) (bd (at? g c) fun e=>bd (qA e.Ids) fun h=>gd (an a+[B6.mk e.Code h].length<=lim) (j (a++[B6.mk e.Code h],w64 (c+1)))) (jn ACo a)
def AKw(a:List B6):AA (List B6):=BD (jw a) big ([],0)
def AHE:GF:=AsW.gf rfl rfl (fun a=>AKw a.1) (fun a=>by kernel_rfl)
def AsX:YF:=⟨[],[.v (.st 13)],[],.ret [(.st 13)],[.cell 2 (some 26)],dY ["CIcdO9EqzLkuLPxokam3wQWeaRld5iWBStrGtbulunWkqsgaQxgl73qGNlgLMojRXshQMUQWYH"] [ARS,AHE]⟩
def AKx(a:Cf):AA Cf:=bd (AJx a.Ao) fun c=>gd (0+a.GS.length<=lim) (bd (AKw a.Dn) fun e=>some (Cf.mk c a.GS e a.Iv))
def AHF:GF:=AsX.gf rfl rfl (fun a=>AKx a.1) (fun a=>by kernel_rfl)
def AsY:YF:=⟨[],[.v (.st 13),.v (.st 14)],[],.ret [(.st 13),.i],[.cell 4 (some 26),.tmp 5],dY ["7g7lerB6zGEo2s81tQG7SaYEu8y08lhbPF0oC6BOHfQlCz85eVLQ2wAtRKnFC7QwevpFHozFdJSIHNEY","5uRrtG3tRUMJKE40XtZxqaYThtbhWCTjk2Q3gP3B6eNtHw4Kc77Q9jkhzQxMtUScu63riIVJr6G3vJ4M","DR8udyHqUrM64CcbkDj3Ef7RyZuTaZVSnmiUfAYiBKv156yP3p2FS9Mbiy7BM1g89RBYWrg2lt8wFKBe","7Tzx6hO380vFPeizj7XDrd8Od2JxLxlDUgVBrp42MAvsP6BdleRnlmmUUartpnFBQMtupVCmqQVE7h2Q","CAj0SULHpYUB88w9GcVbXCorLXbvRNufdPymFHMK5Bmow0HUWlQ2f8dU4cCsTzefTtbEx8jvnf5uQChQ","bog7FPgwpYQnUVO6B0jucmy8B9JP6kDOByG0ZeW8uVwKNQvlkGxzyldy0ZCzfAOAAtfTBsbU7ckvWnGJ","RKK7K6V4WQka3GpKS3kwExdHz06QyHJiUpUdg54uMXDkAvIzn6pbueYt5XsUFJOgegGkjZTG2xLwbhiG","bBB0KIGcuTn5UB6cA"] [AHF,Et,VQ,AHC,AGA,Ss,lu,AG6,mC,mA]⟩
def AmM(a:Cf):AA (Cf×Int):=some (a,0)
def jy(g:Cf)(h:UQ)(a:Cf)(H:Bool):AA (Cf×Int):=br H (some (a,21)) (br (h.Kind==1) (bd (ABa g.Ao h.Req) fun G=>some (Cf.mk G.fst a.GS a.Dn a.Iv,G.snd)) (br (h.Kind==2) (bd (XC g.Ao) fun B=>gd (a.GS.length+a.Ao.Laid.length<=lim) (gd (a.Dn.length+an B.snd<=lim) (jn AmM (Cf.mk B.fst (a.GS++a.Ao.Laid) (a.Dn++B.snd) a.Iv)))) (br (h.Kind==3) (bd (AQk g.Ao h.N_) fun E=>br (!E.snd) (some (Cf.mk E.fst a.GS a.Dn a.Iv,25)) (jn AmM (Cf.mk E.fst a.GS a.Dn a.Iv))) (bd (AQp g h.R4) fun e=>gd (0<=e/\e<=a.Ao.Laid.length) (bd (AKl g.Ao.BO (ae (aQ e-0) (aq 0 a.Ao.Laid))) fun c=>bd (AKl g.Ao.BO (ae (aQ e-0) (aq 0 a.Ao.Laid))) fun j=>eqv c.snd j.snd (Jz c.fst j.fst (bd (AQo g.Ao.BH h.R4) fun q=>bd (rX q) fun y=>gd (0<=e/\e<=a.Ao.Laid.length) (gd (a.GS.length+(ae (aQ e-0) (aq 0 a.Ao.Laid)).length<=lim) (gd (a.Dn.length+an c.snd<=lim) (jn AmM (Cf.mk y.fst (a.GS++ae (aQ e-0) (aq 0 a.Ao.Laid)) (a.Dn++c.snd) (w64 (a.Iv+1)))))))))))))
def AKy(a:Cf)(c:UQ):AA (Cf×Int):=bd (AKx a) fun e=>bd (C5 c.Kind 1 4) fun j=>br (!j) (some (e,26)) (bd (Wa a.Ao) fun q=>br (!q) (jn (jy a c e) true) (br (c.Kind==4) (bd (AQp a c.R4) fun g=>bd (C5 g 0 (↑e.Ao.Laid.length:Int)) fun h=>jn (jy a c e) (!h)) (jn (jy a c e) false)))
def AHG:GF:=AsY.gf rfl rfl (fun a=>AKy a.1 a.2.1) (fun a=>by kernel_rfl)
def AsZ:YF:=⟨[],[.v (.l .u)],[],.ret [(.st 1)],[.cell 2 (some 9)],dY ["12d66W9UVltWf8Xa8vp8"] [ZS,AHD]⟩
def AQq(a:List UInt8):AA Aa:=bd (bB a) fun c=>bd (AKv c) fun e=>some e.fst
def mD:GF:=AsZ.gf rfl rfl (fun a=>AQq a.1) (fun a=>by kernel_rfl)
def Yq:YF:=⟨[],[.v (.l .u)],[],.ret [.b],[.tmp 2],dY ["1mNOInKD0onkK1xYTqJ27SAjsxqqww3zPYj3KYupW510RfUj6BRLSC4nvjFjFd8iLh2ZnurL0b4gJrtT","xL5NJ18khGjzf41eOrG04DGYOeNCnvfnzVAgK9hVIygr8KTKNMdb3vmbHr7eoZLopfIY60WXlrktPEAL","WNyqwRWkdAH3q8QydP2Qnc7j6xEUyUth8Go98elvylyBng4JeX5gxmJzSimD6dC3gJQyP0HXo84XX407","UewYjU1UGSewOAthM3cDxkBozoaRMHwkXErkmQBmGNDX5ouZjZuDrpIq7TxYE6ZUjRg6DNgjr5CYIftZ","in5wDKl61FJ"] [Km,mD,Sp,bU,vz,AHG,xM,xG]⟩
def Dr(a:Bool):AA Bool:=some a
def Ik(g:List UInt8):AA Bool:=bd (Nq g) fun H=>br H (some true) (bd (AQq g) fun B=>bd (KK B) fun c=>bd (ue B) fun I=>br (!I) (some (!c.snd)) (bd (gK g 1) fun y=>bd (AKy c.fst (UQ.mk 4 (B3.mk 0 0 0 0 0 0) 0 [y])) fun a=>bd (AKy c.fst (UQ.mk 4 (B3.mk 0 0 0 0 0 0) 0 [y])) fun E=>eqv a.snd E.snd (Yl a.fst E.fst (bd (AKy c.fst (UQ.mk 4 (B3.mk 0 0 0 0 0 0) 0 [y])) fun G=>eqv a.snd G.snd (Yl a.fst G.fst (bd (gK g 1) fun J=>bd (AKy c.fst (UQ.mk 4 (B3.mk 0 0 0 0 0 0) 0 [J])) fun e=>eqv a.snd e.snd (Yl a.fst e.fst (br c.snd (bd (ACm c.fst) fun h=>br h (bd (ACY c.fst) fun j=>br j (br (a.snd==0) (bd (ACY a.fst) fun q=>br q (br (a.fst.Iv==1) (jn Dr ((↑a.fst.GS.length:Int)==0)) (jn Dr false)) (jn Dr false)) (jn Dr false)) (jn Dr false)) (jn Dr false)) (jn Dr false)))))))))
def Gg:GF:=Yq.gf rfl rfl (fun a=>Ik a.1) (fun a=>by kernel_rfl)
end Lv
