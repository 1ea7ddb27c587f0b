/- Functions of the program as typed texts and as plain functions. -/
import Derived.Test.YtcmjfplpdjflnaaGreatTC
open List renaming set->an,replicate->c5,take->e8,length->e9,drop->g0
noncomputable section
set_option linter.unusedVariables false
set_option linter.unusedSimpArgs false
set_option linter.unusedSectionVars false
set_option maxRecDepth 100000
namespace Lv
open Go (IntKind BinOp UnOp)
open Y (YF qn qf qt qr q1 qd qm qa qo ql qL qb qi qx qp qq qc qz qe qk qK qB qw qu qj Kp wn wf wt w1 sw sq sr wm wM wo wO wl wL wk wK wz wZ wx wX wb wB wi wI wr wR wq wQ we wE wc wY wj wh cv ca cx cn ce bl)
def ADQ(a:List Int)(c:Int):AA Int:=br (decide (w64 (c-(↑a.length:Int))<0)) (some (-1)) (some (w64 (c-(↑a.length:Int))))
def ABQ:=gZ ZR CZ Bw ["BNN2hetxPuB9yW8a241gFJIQR"] [] (Ah ADQ)
def AY4(c:Ae)(e:Int):AA Int:=bd (ADQ c.AZ e) fun a=>br (decide (a<0)) (some (-1)) (some a)
def AX7:=gZ [.v (.st 1),.v .i] CZ Bw ["GF988y3d0W5qJ6PtdAbX0wbLz8"] [ABQ] (Ah AY4)
def AY5(a:List AM)(c:Int):AA Int:=br (decide (w64 (c-(↑a.length:Int))<0)) (some (-1)) (some (w64 (c-(↑a.length:Int))))
def AX8:=gZ QO CZ Bw ["BNN2hetxPuB9yW8a241gFJIQR"] [] (Ah AY5)
def AY6(a:List Ad)(c:Int):AA Int:=br (decide (w64 (c-(↑a.length:Int))<0)) (some (-1)) (some (w64 (c-(↑a.length:Int))))
def AX9:=gZ ABS CZ Bw ["BNN2hetxPuB9yW8a241gFJIQR"] [] (Ah AY6)
def AY7(a:List A7)(c:Int):AA Int:=br (decide (w64 (c-(↑a.length:Int))<0)) (some (-1)) (some (w64 (c-(↑a.length:Int))))
def AYA:=gZ [.v (.l (.st 5)),.v .i] CZ Bw ["BNN2hetxPuB9yW8a241gFJIQR"] [] (Ah AY7)
def AHy(a:Int):AA Int:=some a
def AHz(c:List (List A7))(h:Int×Int->AA Int)(q:Int×Int):AA Int:=let (e,a):=q;br (decide (a<c.length)) (bd (at? c a) fun j=>bd (AY7 j e) fun g=>br (decide (g<0)) (some (-1)) (h (g,w64 (a+1)))) (jn AHy e)
def AWR(a:List (List A7))(c:Int):AA Int:=br (decide (w64 (c-(↑a.length:Int))<0)) (some (-1)) (A3 (AHz a) big (w64 (c-(↑a.length:Int)),0))
def AYB:=gZ AYU CZ Bw ["BcCQDzPgWC3YaxwjdODYVmtgR3z3BsLItEpYp3EGoxjNlvXt0gwHhj8tVpssk3vRnKJqCE1V"] [AYA] (Ah AWR)
def AY8(c:Av)(e:Int):AA Int:=bd (AWR c.An e) fun a=>br (decide (a<0)) (some (-1)) (some a)
def AYC:=gZ ASo CZ Bw ["GF988y3d0W5qJ6PtdAbX0wbLz8"] [AYB] (Ah AY8)
def AWS(a:AX)(g:Int):AA Int:=bd (AY6 a.Row g) fun c=>br (decide (c<0)) (some (-1)) (bd (AY8 a.Bq c) fun e=>br (decide (e<0)) (some (-1)) (some e))
def AYD:=gZ [.v (.st 7),.v .i] CZ Bw ["RdhCWNy0zIDmRWpLNdbZUNbihoX8egBNDIpJLpj0L5RD6"] [AX9,AYC] (Ah AWS)
def AIk(a:Int):AA Int:=some a
def AIl(c:List AX)(h:Int×Int->AA Int)(q:Int×Int):AA Int:=let (e,a):=q;br (decide (a<c.length)) (bd (at? c a) fun j=>bd (AWS j e) fun g=>br (decide (g<0)) (some (-1)) (h (g,w64 (a+1)))) (jn AIk e)
def AWT(a:List AX)(c:Int):AA Int:=br (decide (w64 (c-(↑a.length:Int))<0)) (some (-1)) (A3 (AIl a) big (w64 (c-(↑a.length:Int)),0))
def AYE:=gZ [.v (.l (.st 7)),.v .i] CZ Bw ["4QWVwNTxGq7NDt7nhq6xs0R61nkxkXMNAw9iaMiHBzTefIin1JmVqpZon3FT0W90ihAG6OFMG"] [AYD] (Ah AWT)
def AWU(a:AF)(q:Int):AA Int:=bd (AY4 a.AQ q) fun c=>br (decide (c<0)) (some (-1)) (bd (AY5 a.AG c) fun e=>br (decide (e<0)) (some (-1)) (bd (AWT a.AH e) fun g=>br (decide (g<0)) (some (-1)) (bd (ADQ a.BE g) fun h=>br (decide (h<0)) (some (-1)) (bd (ADQ a.BC h) fun j=>br (decide (j<0)) (some (-1)) (some j)))))
def AYF:=gZ HH CZ Bw ["QYApW8Mo6GZH4PaXgkA4hoGHa0aNClea7S2xK32B8FLDUxYRqS7BheuUl6z4U3NHq46SyLbpxg8vOj8X","jO7kxsxPfvBoaDwIKGuNqhV"] [AX7,AX8,AYE,ABQ] (Ah AWU)
def AOz(a:B3)(c:Int):AA Int:=br (decide (w64 (c-(↑a.Data.length:Int))<0)) (some (-1)) (some (w64 (c-(↑a.Data.length:Int))))
def AYG:=gZ jF CZ Bw ["TpLoZLb1ezmk0sA96qHr8wfibyrn"] [] (Ah AOz)
def AY9(a:Br)(h:Int):AA Int:=bd (AOz a.Log h) fun c=>br (decide (c<0)) (some (-1)) (bd (AOz a.EJ c) fun e=>br (decide (e<0)) (some (-1)) (bd (AOz a.Odd e) fun g=>br (decide (g<0)) (some (-1)) (some g)))
def AYH:=gZ jG CZ Bw ["JXy8SZktAOaypiK7g25TBqNXMm6EbtXpkHqpdRFS3DYl9mt6ceRPx2X6TD8B4h5"] [AYG] (Ah AY9)
def AWV(a:List Bo)(c:Int):AA Int:=br (decide (w64 (c-(↑a.length:Int))<0)) (some (-1)) (some (w64 (c-(↑a.length:Int))))
def ASj:=gZ [.v (.l (.st 0)),.v .i] CZ Bw ["BNN2hetxPuB9yW8a241gFJIQR"] [] (Ah AWV)
def AWW(a:BD)(h:Int):AA Int:=bd (AWU a.Az h) fun c=>br (decide (c<0)) (some (-1)) (bd (AY9 a.Bl c) fun e=>br (decide (e<0)) (some (-1)) (bd (AWV a.Laid e) fun g=>br (decide (g<0)) (some (-1)) (some g)))
def AYI:=gZ Xr CZ Bw ["2YDFVLEUm6XszdXiKcsnO0KqYqliwC3lrLJ5tHS8vL7KQEwK3APsKsmxEGCEf1Jz"] [AYF,AYH,ASj] (Ah AWW)
def AJV(a:List Int):AA (List Int):=some a
def qT(e:List Int)(g:List Int×Int->AA (List Int))(j:List Int×Int):AA (List Int):=let (c,a):=j;br (decide (a<e.length)) (bd (at? e a) fun h=>bd (at? c a) fun q=>bd (at? c a) fun y=>g (an c a.toNat h,w64 (a+1))) (jn AJV c)
def AA6(a:List Int):AA (List Int):=gd (0<=(↑a.length:Int)/\(↑a.length:Int)<=lim) (A3 (qT a) big (c5 (↑a.length:Int).toNat 0,0))
def ABR:=gZ Tq M1 Ca ["l2bKLvl3ciwp6BlKCFSaX9BHabR3b4dvRPOjvJ8ZDrlDryzYjLttXBioywl"] [] (Be AA6) [.LM 7 .i (.tmp 6)]
def AWX(a:Ae):AA Ae:=bd (AA6 a.AZ) fun c=>some (Ae.mk c a.Ce a.Room a.BB a.CE a.B0 a.Rest a.Cd a.C3)
def AYJ:=gZ Tr AEx AE4 ["7bb4vDsNg4QKkno2GZucD9jEUbatTSKW8Vkjh9Aoyu7VLoj719FZi1byQFpEYMdovf7S4jqE3VSR"] [ABR] (Be AWX)
def AZA(a:AM):AA AM:=some a
def AYK:=gZ [.v (.st 2)] (.ret [(.st 2)]) [.cell 2 (some 10)] ["Bf4tfGrmwZ2weSIpeKA2jUphN8Hn0lZmGRNqkQfdhzxQxz4ubtfxQ00g0ogew6H3DhxVs5wTiJ7zvTU"] [] (Be AZA)
def AJW(a:List AM):AA (List AM):=some a
def qU(e:List AM)(g:List AM×Int->AA (List AM))(q:List AM×Int):AA (List AM):=let (c,a):=q;br (decide (a<e.length)) (bd (at? e a) fun h=>bd (AZA h) fun j=>bd (at? c a) fun y=>bd (at? c a) fun B=>g (an c a.toNat j,w64 (a+1))) (jn AJW c)
def AWY(a:List AM):AA (List AM):=gd (0<=(↑a.length:Int)/\(↑a.length:Int)<=lim) (A3 (qU a) big (c5 (↑a.length:Int).toNat (AM.mk 0 0 0 0 0 0 0 0 0 0),0))
def AYL:=gZ [.v (.l (.st 2))] AEy Ca ["2k7zKXiYjsb1QWzBDCn6CzTAkCegU5aNekjiITid3fdO0ZbNv5tHlpBpto1MsB"] [AYK] (Be AWY) [.LM 7 (.st 2) (.tmp 6)]
def AZB(a:BJ):AA BJ:=some a
def AYM:=gZ [.v (.st 3)] (.ret [(.st 3)]) [.cell 2 (some 5)] ["1PeJEBSmX0B68kjaJhEjiFlGQH1OgBmlQuKET4Jfh7TNtG"] [] (Be AZB)
def AZC(a:Ad):AA Ad:=some a
def AYN:=gZ [.v (.st 4)] (.ret [(.st 4)]) [.cell 2 (some 4)] ["3MAmxAc83FyKjceiDbKh8hiLocjX5J6XYvrTozeZ"] [] (Be AZC)
def AJX(a:List Ad):AA (List Ad):=some a
def qV(e:List Ad)(g:List Ad×Int->AA (List Ad))(q:List Ad×Int):AA (List Ad):=let (c,a):=q;br (decide (a<e.length)) (bd (at? e a) fun h=>bd (AZC h) fun j=>bd (at? c a) fun y=>bd (at? c a) fun B=>g (an c a.toNat j,w64 (a+1))) (jn AJX c)
def AWZ(a:List Ad):AA (List Ad):=gd (0<=(↑a.length:Int)/\(↑a.length:Int)<=lim) (A3 (qV a) big (c5 (↑a.length:Int).toNat (Ad.mk 0 0 0 0),0))
def AYO:=gZ jC jH Ca ["MXJxgguxa7Rnvadc8PkWNkYSJ45SYELkGSdqU1VacvmdXl3FiruS5wL1TMY2ei"] [AYN] (Be AWZ) [.LM 7 (.st 4) (.tmp 6)]
def AZD(a:A7):AA A7:=some a
def AYP:=gZ [.v (.st 5)] (.ret [(.st 5)]) jJ ["8fFC5DO7fjCXGYWPnIKlMYfx7nE5"] [] (Be AZD)
def AJY(a:List A7):AA (List A7):=some a
def qW(e:List A7)(g:List A7×Int->AA (List A7))(q:List A7×Int):AA (List A7):=let (c,a):=q;br (decide (a<e.length)) (bd (at? e a) fun h=>bd (AZD h) fun j=>bd (at? c a) fun y=>bd (at? c a) fun B=>g (an c a.toNat j,w64 (a+1))) (jn AJY c)
def AWa(a:List A7):AA (List A7):=gd (0<=(↑a.length:Int)/\(↑a.length:Int)<=lim) (A3 (qW a) big (c5 (↑a.length:Int).toNat (A7.mk 0 0),0))
def AYQ:=gZ AEq Tv Ca ["1AkGxs0Rv3IOCBN7axpewJHpzJgxhdSamEA3CgPp8xpvyGQnOBcuRfX5PZVDqz"] [AYP] (Be AWa) [.LM 7 (.st 5) (.tmp 6)]
def AJZ(a:List (List A7)):AA (List (List A7)):=some a
def qX(e:List (List A7))(g:((List (List A7))×Int)->AA (List (List A7)))(q:((List (List A7))×Int)):AA (List (List A7)):=let (c,a):=q;br (decide (a<e.length)) (bd (at? e a) fun h=>bd (AWa h) fun j=>bd (at? c a) fun y=>bd (at? c a) fun B=>g (an c a.toNat j,w64 (a+1))) (jn AJZ c)
def AWb(a:List (List A7)):AA (List (List A7)):=gd (0<=(↑a.length:Int)/\(↑a.length:Int)<=lim) (A3 (qX a) big (c5 (↑a.length:Int).toNat [],0))
def AYR:=gZ [.v (.l (.l (.st 5)))] (.ret [(.l (.l (.st 5)))]) Ca ["Yw2WVDBC7tLTWPy7DZ5YipmLvw57FTOzCOcX5Sef6VGWuV4p26BUvzFahg7x1gOq"] [AYQ] (Be AWb) [.LM 7 (.l (.st 5)) (.tmp 6)]
def AWc(a:Av):AA Av:=bd (AWb a.An) fun c=>some (Av.mk c)
def AYS:=gZ Ts AEz AE5 ["14X4Pql7qdf5JqHApWEjF4r52"] [AYR] (Be AWc)
def AWd(a:AX):AA AX:=bd (AZB a.AZ) fun c=>bd (AWZ a.Row) fun e=>bd (AWc a.Bq) fun g=>some (AX.mk c e g)
def AYT:=gZ jD AE0 AE6 ["60pmhBpKwkov2c5rruz5M9U1pMUkKB9MdgmeGZLNHXU"] [AYM,AYO,AYS] (Be AWd)
def AG6(a:List AX):AA (List AX):=some a
def qQ(e:List AX)(g:List AX×Int->AA (List AX))(q:List AX×Int):AA (List AX):=let (c,a):=q;br (decide (a<e.length)) (bd (at? e a) fun h=>bd (AWd h) fun j=>bd (at? c a) fun y=>bd (at? c a) fun B=>g (an c a.toNat j,w64 (a+1))) (jn AG6 c)
def AWN(a:List AX):AA (List AX):=gd (0<=(↑a.length:Int)/\(↑a.length:Int)<=lim) (A3 (qQ a) big (c5 (↑a.length:Int).toNat (AX.mk (BJ.mk 0 0 0 0 0) [] (Av.mk [])),0))
def AX2:=gZ [.v (.l (.st 7))] (.ret [(.l (.st 7))]) Ca ["36pz1KjFLPrF8WwllxgoZvz0VNVfjXOYaxbogfHeNk8kLBgtRcnauhFZWoJLVJq"] [AYT] (Be AWN) [.LM 7 (.st 7) (.tmp 6)]
def AWO(a:AF):AA AF:=bd (AWX a.AQ) fun c=>bd (AWY a.AG) fun e=>bd (AWN a.AH) fun g=>bd (AA6 a.BE) fun h=>bd (AA6 a.BC) fun j=>some (AF.mk c a.Now a.Ay e g h j)
def AX3:=gZ Ns Nt [.cell 2 (some 15)] ["1JRJJy3cyQ1mQ1YLf7ciQ3bVc9EgwFn0f6G7ersD2pIBJ4t6XSsYpHraMRZBvEH78wbK5LWr"] [AYJ,AYL,AX2,ABR] (Be AWO)
def AOJ(a:B3):AA B3:=some a
def AX4:=gZ Xs Tw jJ ["84CiOfBVR3eUD1rDGvcYAtF0t81R"] [] (Be AOJ)
def AWP(a:Br):AA Br:=bd (AOJ a.Log) fun c=>bd (AOJ a.EJ) fun e=>bd (AOJ a.Odd) fun g=>some (Br.mk c e g)
def AX5:=gZ Kg jI [.cell 2 (some 6)] ["9QDsGPzHEQY77Rw80rbDYlruL7Kjib8AzK5wBjrH"] [AX4] (Be AWP)
def AOK(a:Bo):AA Bo:=some a
def APP:=gZ sU (.ret [(.st 0)]) [.cell 2 (some 6)] ["5mNGLdH0qJVUFlFzCuoVsZdgYGxaw8tSKL244OrUHIsOgoUJEpbR"] [] (Be AOK)
def AG7(a:List Bo):AA (List Bo):=some a
def qR(e:List Bo)(g:List Bo×Int->AA (List Bo))(q:List Bo×Int):AA (List Bo):=let (c,a):=q;br (decide (a<e.length)) (bd (at? e a) fun h=>bd (AOK h) fun j=>bd (at? c a) fun y=>bd (at? c a) fun B=>g (an c a.toNat j,w64 (a+1))) (jn AG7 c)
def AOL(a:List Bo):AA (List Bo):=gd (0<=(↑a.length:Int)/\(↑a.length:Int)<=lim) (A3 (qR a) big (c5 (↑a.length:Int).toNat (Bo.mk 0 0 0 0 0 0),0))
def APQ:=gZ [.v (.l (.st 0))] AE1 Ca ["1lHAUoD1A0iINYcBuOTEfP6SsXIEmayd7qT6OVj4wfQZG4BFei7uu9z0x0gfYmV"] [APP] (Be AOL) [.LM 7 (.st 0) (.tmp 6)]
def AWQ(a:BD):AA BD:=bd (AWO a.Az) fun c=>bd (AWP a.Bl) fun e=>bd (AOL a.Laid) fun g=>some (BD.mk c e a.Seq g)
def AX6:=gZ Tt AE2 AE7 ["5DlQfP4Ei6PjJV1OpcNiWWptHrWJfujd7IjBqn4HgAaRSrAaSr"] [AX3,AX5,APQ] (Be AWQ)
def aG(a:Bool):AA Bool:=some a
def ED(a c e:Int):AA Bool:=br (decide (a>=c)) (jn aG (decide (a<=e))) (jn aG false)
def Gx:=gZ AEr CI Nv ["S8D0QG6XYinbnkmU3Op4jrJCz"] [] (GA ED)
def Uc(a:Bool):AA Bool:=some a
def AG8(a:Ae)(_:PUnit):AA Bool:=bd (ED a.B0 1 8) fun e=>br e (bd (ED a.Rest 0 8) fun g=>br g (bd (ED a.Cd 1 4) fun h=>br h (bd (ED a.C3 1 3) fun c=>jn Uc c) (jn Uc false)) (jn Uc false)) (jn Uc false)
def qS(a:Ae)(e:Int->AA Bool)(c:Int):AA Bool:=br (decide (c<a.AZ.length)) (bd (at? a.AZ c) fun g=>bd (ED g 1 60) fun h=>br (!h) (some false) (e (w64 (c+1)))) (jn (AG8 a) ())
def PX(a:Ae)(c:Bool):AA Bool:=br c (some false) (A3 (qS a) big 0)
def ADO(a:Ae):AA Bool:=bd (ED (↑a.AZ.length:Int) 1 4) fun j=>br (!j) (jn (PX a) true) (bd (ED a.Ce 1 5) fun c=>br (!c) (jn (PX a) true) (bd (ED a.Room 1 10) fun e=>br (!e) (jn (PX a) true) (bd (ED a.BB 1 6) fun g=>br (!g) (jn (PX a) true) (bd (ED a.CE 1 12) fun h=>jn (PX a) (!h)))))
def ABO:=gZ Tr CI Ca ["IvWoyPjjs5CptkzMwqMhrOC2mJtWpGNPoqgcjEqxLeh1aO9IhKCwbhBwgCTIL99y5iUlteMEGfor2AKc","qVamU5KpjSJk6tBtGy3j0AQzPvXuEZJt3gkrdWg3VfERCvZXRZdPYxVlDgxX6wfc6s11PkWQ79l7QblL","mrBGG4GRSik9dNMWbaYD4"] [Gx] (Be ADO)
def SD(a:Bool):AA Bool:=some a
def PY(c:Ae)(a:AM)(e:Int)(g:Bool):AA Bool:=br g (some false) (br (a.State==1) (bd (ED a.Cq 0 (w64 (e+c.Rest))) fun h=>br h (jn SD true) (br (a.State==2) (bd (ED a.Cq 1 (w64 (e+c.B0))) fun j=>jn SD j) (jn SD false))) (br (a.State==2) (bd (ED a.Cq 1 (w64 (e+c.B0))) fun q=>jn SD q) (jn SD false)))
def NT(c:Ae)(a:AM)(e:Int)(q:Bool):AA Bool:=br q (some false) (bd (ED a.BB 1 c.BB) fun y=>br (!y) (jn (PY c a e) true) (bd (ED a.Cv 0 (w64 (c.Ce-1))) fun B=>br (!B) (jn (PY c a e) true) (bd (ED a.Since 0 e) fun g=>br (!g) (jn (PY c a e) true) (bd (ED a.Ay 1 1000000) fun h=>br (!h) (jn (PY c a e) true) (bd (ED a.DB 0 (w64 (c.Cd-1))) fun j=>jn (PY c a e) (!j))))))
def ADP(c:Ae)(a:AM)(e:Int):AA Bool:=bd (ADO c) fun y=>br (!y) (jn (NT c a e) true) (bd (ED e 0 1000000) fun g=>br (!g) (jn (NT c a e) true) (bd (ED a.Id 1 999) fun h=>br (!h) (jn (NT c a e) true) (bd (ED a.AY 0 (w64 ((↑c.AZ.length:Int)-1))) fun j=>br (!j) (jn (NT c a e) true) (bd (ED a.Bk (-1) (w64 ((↑c.AZ.length:Int)-1))) fun q=>br (!q) (jn (NT c a e) true) (jn (NT c a e) (a.Bk==a.AY))))))
def ABP:=gZ RJ CI Nv ["RL5JpzABcSt3GQ67MDC3ABiuUbBBkvlUrHtnHanQPw2QqpbPjhRqjYnDVNjQZ1ky2GBKSyKvCLo3okcd","TQypLQDSuB4Hjk0ISe6AxjiroBJca3xAblMb2HUDUZZeuxSYQpX2Smy09mLj4rmVi6rW25n4F3W2QY12","VbWlnrJzXLIRR7RlrgSwAYWzvPrrStCzaP1IxCzguTVPPEgMwMnXDXOYWSBsO2zhPC210N2aG2TUyZOv","Bnvinv5g4exeKFgR9poEhXVLF6BWW09zsCVurhUfAJf8tVxhzPOCJ1iz"] [ABO,Gx] (GA ADP)
def K9(a:Int->AA Bool)(c:Int)(e:Bool):AA Bool:=br e (some false) (a (w64 (c+1)))
def wV(a:Int->AA Bool)(c:Int)(_:PUnit):AA Bool:=a (w64 (c+1))
def bO(q:AF)(j:Int->AA Bool)(h:Int)(c:AM)(g:Int->AA Bool)(a:Int):AA Bool:=br (decide (a<h)) (bd (at? q.AG a) fun e=>br (e.Ay==c.Ay) (jn (K9 g a) true) (br (decide (e.Ay<c.Ay)) (br (decide (e.Since>c.Since)) (jn (K9 g a) true) (br (decide (e.Ay>c.Ay)) (jn (K9 g a) (decide (e.Since<c.Since))) (jn (K9 g a) false))) (br (decide (e.Ay>c.Ay)) (jn (K9 g a) (decide (e.Since<c.Since))) (jn (K9 g a) false)))) (jn (wV j h) ())
def OM(c:AF)(a:Int->AA Bool)(e:Int)(h:AM)(g:Bool):AA Bool:=br g (some false) (A3 (bO c a e h) big 0)
def wW(_:PUnit):AA Bool:=some true
def bN(a:AF)(g:Int->AA Bool)(c:Int):AA Bool:=br (decide (c<a.AG.length)) (bd (at? a.AG c) fun e=>bd (ADP a.AQ e a.Now) fun j=>br (!j) (jn (OM a g c e) true) (br (decide (e.Ay>=a.Ay)) (jn (OM a g c e) true) (br (decide (c>0)) (bd (at? a.AG (w64 (c-1))) fun h=>jn (OM a g c e) (decide (h.Id>=e.Id))) (jn (OM a g c e) false)))) (jn wW ())
def AG9(a:AF):AA Bool:=A3 (bN a) big 0
def APS:=gZ Ns CI Ca ["6Ua4vTbdRzDdPMxVLmvbxvp6WoVeLbthYSjebayl0s4sobIIezPokEMeciJ9S4jcbgj3nFdtDqlMTdU0","ldhMAJydCdosnHbvMoncFlmGHcyZn7Nu7yO2UcCm1F0sDf81yIuFBSWKit5TLqCGW5TMoYWdiljyF4i6","kOJGtllE1uFNaGc7aBtZ9xw52RjTGCUSBEV7yfyBk6Wi5nSxdqPvPfv6uUNVKIrl7MUvEqPfvR4ufL31","AuaHmHLzdRGyEeAk6gc0NcTfckDyLKi7OnN"] [ABP] (Be AG9)
def wa(_:PUnit):AA Bool:=some false
def wg(c:List Int)(g:Int)(e:Int->AA Bool)(a:Int):AA Bool:=br (decide (a<c.length)) (bd (at? c a) fun h=>br (h==g) (some true) (e (w64 (a+1)))) (jn wa ())
def mX(a:List Int)(c:Int):AA Bool:=A3 (wg a c) big 0
def rL:=gZ ZR CI Bw ["2YbIXSUSdZCAeqDrOLGs3yJEJUsuoREjpDdNOaxMh"] [] (Ah mX)
def bP(a:Int->AA Bool)(c:Int)(e:Bool):AA Bool:=br e (some false) (a (w64 (c+1)))
def wu(a:AF)(_:PUnit):AA Bool:=some ((↑a.BC.length:Int)==a.AQ.C3)
def bR(a:AF)(h:Int->AA Bool)(c:Int):AA Bool:=br (decide (c<a.BC.length)) (bd (at? a.BC c) fun e=>bd (ED e (-1) (w64 ((↑a.AH.length:Int)-1))) fun g=>br (!g) (some false) (h (w64 (c+1)))) (jn (wu a) ())
def Ui(a:AF)(_:PUnit):AA Bool:=A3 (bR a) big 0
def bQ(c:AF)(e:Int->AA Bool)(a:Int):AA Bool:=br (decide (a<c.BE.length)) (bd (at? c.BE a) fun g=>bd (ED g 0 (w64 ((↑c.AH.length:Int)-1))) fun h=>br (!h) (jn (bP e a) true) (gd (0<=a/\a<=c.BE.length) (bd (at? c.BE a) fun j=>bd (mX (e8 a.toNat c.BE) j) fun q=>jn (bP e a) q))) (jn (Ui c) ())
def AHA(a:AF):AA Bool:=A3 (bQ a) big 0
def APT:=gZ Ns CI Ca ["1DO4F1x9okBIgAL7b9rTwzUb6RZcn1TKMUrDFqNASjGyPHfyF8REiTiTF2Rw7WWe4i7CimFM7nd2gjqh","ioyMUrSx5qOeU9KBNBbZlmCT3X5QfUYZ3J4wmpUXXCcbFA3OvtRVsUxXKZLjcYKZEZW034LwdFRcdAr"] [Gx,rL] (Be AHA)
def Mp(a:Bool):AA Bool:=some a
def mY(a:BJ):AA Bool:=bd (ED a.Total 1 60) fun c=>br c (bd (ED a.DY 0 a.Total) fun e=>br e (bd (ED a.EZ 0 a.Total) fun g=>br g (bd (ED a.FM 0 a.Total) fun h=>br h (br (w64 (w64 (a.DY+a.EZ)+a.FM)==a.Total) (bd (ED a.Fa 0 a.FM) fun j=>jn Mp j) (jn Mp false)) (jn Mp false)) (jn Mp false)) (jn Mp false)) (jn Mp false)
def ADe:=gZ [.v (.st 3)] CI Ca ["acWJim1voLo4mCjEMZ2J5U8F5zhxjLe0gdXaRT2ERoOHYKfrdMuBqtvSJ6bgNGnpXJGzVOLFMILN3vw3","iYsSSLdpoWLoNliEhDNVv6AWJCzyAioLgwH"] [Gx] (Be mY)
def Uj(a:Bool):AA Bool:=some a
def wv(a c:Ad):AA Bool:=br (decide (a.Level<c.Level)) (jn Uj true) (br (a.Level==c.Level) (jn Uj (decide (a.Ay<c.Ay))) (jn Uj false))
def ADf:=gZ sV CI Bw ["RBw8podVTZkMzvkcakGN8BRBP8vZqzuy6rlg9Js1H5AeJOU5xhz"] [] (Ah wv)
def wy(_:PUnit):AA Int:=some (-1)
def w5(c:List Ad)(g:Int)(e:Int->AA Int)(a:Int):AA Int:=br (decide (a<c.length)) (bd (at? c a) fun h=>br (h.Id==g) (some a) (e (w64 (a+1)))) (jn wy ())
def mZ(a:List Ad)(c:Int):AA Int:=A3 (w5 a c) big 0
def ADg:=gZ ABS CZ Bw ["MtsuyRW5ikxUImNeTyCxGNCDgEbuurAeunyRbgIbcdRJs"] [] (Ah mZ)
def Ql(a:Int->AA Bool)(c:Int)(e:Bool):AA Bool:=br e (some false) (a (w64 (c+1)))
def ON(e:List Ad)(c:Int->AA Bool)(a:Int)(h:Ad)(j:Bool):AA Bool:=br j (some false) (br (decide (a>0)) (bd (at? e (w64 (a-1))) fun q=>bd (wv q h) fun y=>br (!y) (jn (Ql c a) true) (bd (mZ e h.Id) fun B=>jn (Ql c a) (B != a))) (bd (mZ e h.Id) fun g=>jn (Ql c a) (g != a)))
def w6(_:PUnit):AA Bool:=some true
def bS(c:List Ad)(g:Int->AA Bool)(e:Int):AA Bool:=br (decide (e<c.length)) (bd (at? c e) fun a=>bd (ED a.Level 0 4) fun y=>br (!y) (jn (ON c g e a) true) (bd (ED a.Ay 1 1000000) fun h=>br (!h) (jn (ON c g e a) true) (bd (ED a.Id 1 999) fun j=>br (!j) (jn (ON c g e a) true) (bd (ED a.BB 1 6) fun q=>jn (ON c g e a) (!q))))) (jn w6 ())
def AHB(a:List Ad):AA Bool:=br (decide ((↑a.length:Int)>10)) (some false) (A3 (bS a) big 0)
def APU:=gZ jC CI Ca ["JHM0jRu9lx9UkqIWVopcezjiiuINjDaZWYW1qjOPbqoUyBOkdJwvRy2E1UQvXSlMBgBoBRoQmVHLf04f","R9wgNiW74qnTJIXNtYTFcAil39k6l3N7a74ce0S6Z71l6lKiyZpPlRMvAsZjP9jrxuUJHJyX9XSQXwtX","GXy91Ba9qndonTMk5HmhrainRIIOYZFK"] [Gx,ADf,ADg] (Be AHB)
def w8(a:List A7):AA (List A7):=some a
def w9(e:Av)(h:List A7×Int->AA (List A7))(j:List A7×Int):AA (List A7):=let (a,c):=j;br (decide (c<e.An.length)) (bd (at? e.An c) fun g=>gd (e9 a+e9 g<=lim) (h (a++g,w64 (c+1)))) (jn w8 a)
def w7(a:Av):AA (List A7):=A3 (w9 a) big ([],0)
def ADh:=gZ Ts Tv Ca ["tBrEKGbhBbvWd1pfs6o3DeOubtGrgu3e7S2fI8KwETNMHroMF0jaK62lsqRr0"] [] (Be w7)
def Uk(a:Bool):AA Bool:=some a
def xA(a c:A7):AA Bool:=br (decide (a.At<c.At)) (jn Uk true) (br (a.At==c.At) (jn Uk (decide (a.Id<c.Id))) (jn Uk false))
def ADi:=gZ AEs CI Bw ["RBw8podVTZkMzvkcakGN8BRBP8vZqzuy6rlg9Js1H5AeJOU5xhz"] [] (Ah xA)
def xB(a:Int->AA Bool)(c:Int)(_:PUnit):AA Bool:=a (w64 (c+1))
def bV(e:List A7)(j:Int->AA Bool)(c:Int)(q:Int->AA Bool)(a:Int):AA Bool:=br (decide (a<c)) (bd (at? e a) fun y=>bd (at? e a) fun g=>bd (at? e c) fun B=>bd (at? e c) fun h=>br (g.Id==h.Id) (some false) (q (w64 (a+1)))) (jn (xB j c) ())
def Um(g:List A7)(a:Int->AA Bool)(c:Int)(e:Bool):AA Bool:=br e (some false) (A3 (bV g a c) big 0)
def Uo(a:Int->AA Bool)(c:Int)(e:Bool):AA Bool:=br e (some false) (a (w64 (c+1)))
def ma(a:Int->AA Bool)(c:Int)(_:PUnit):AA Bool:=a (w64 (c+1))
def bX(g:Av)(h:Int->AA Bool)(c:Int)(e:Int->AA Bool)(a:Int):AA Bool:=bd (at? g.An c) fun j=>br (decide (a<(e9 j))) (bd (at? g.An c) fun q=>bd (at? q a) fun y=>br (y.At.tmod 9 != c) (jn (Uo e a) true) (br (decide (a>0)) (bd (at? g.An c) fun B=>bd (at? B (w64 (a-1))) fun E=>bd (at? g.An c) fun G=>bd (at? G a) fun H=>bd (xA E H) fun I=>jn (Uo e a) (!I)) (jn (Uo e a) false))) (jn (ma h c) ())
def mb(_:PUnit):AA Bool:=some true
def bW(e:Av)(c:Int->AA Bool)(a:Int):AA Bool:=br (decide (a<e.An.length)) (A3 (bX e c a) big 0) (jn mb ())
def Un(a:Av)(_:PUnit):AA Bool:=A3 (bW a) big 0
def bU(j:Av)(c:List A7)(h:Int->AA Bool)(a:Int):AA Bool:=br (decide (a<(e9 c))) (bd (at? c a) fun E=>bd (at? c a) fun y=>bd (ED y.At 1 1000008) fun B=>br (!B) (jn (Um c h a) true) (bd (at? c a) fun q=>bd (at? c a) fun e=>bd (ED e.Id 1 999) fun g=>jn (Um c h a) (!g))) (jn (Un j) ())
def Ul(a:Av)(e:List A7)(c:Bool):AA Bool:=br c (some false) (A3 (bU a e) big 0)
def Y7(a:Av):AA Bool:=bd (w7 a) fun c=>br ((↑a.An.length:Int) != 9) (jn (Ul a c) true) (jn (Ul a c) (decide ((↑(e9 c):Int)>10)))
def iq:=gZ Ts CI Ca ["FYWC6NjxOGa30Fk3GuuthonHvAR3aLU5rWM8UBItVwSQ9pEox235GbMaQMfl9wT9gGlJcHKP4avUGpih","kFhCBitAEA2KW7s1p500qGDxMQUBk2Ji9Jv19u61dIfnkP3EvdiJsDV3U4O2QOKyXTscRRbwKjaU8w76","GytIw3AT2AQUIFb4gPRskP6XD884bTGoeE2V1OSRkRfisJ2pDsxcn2mO4TWf3APgwz6de4jmmxxEc4W6","KLCkEgI7a81MsOyKHIvJNsau3jV5HTlK5Q4ujJyJgEUaJAiv2yHjlFMIfluFaBwFQcLrvv9CGsVK5qXN","0CakvmMlWpQ9o3L1Y2JMjoVUH0ilqgsRa"] [ADh,Gx,ADi] (Be Y7)
def Up(a:Bool):AA Bool:=some a
def AHC(a:AX):AA Bool:=bd (mY a.AZ) fun c=>br c (bd (AHB a.Row) fun e=>br e (bd (Y7 a.Bq) fun g=>jn Up g) (jn Up false)) (jn Up false)
def APV:=gZ jD CI Ca ["IdjITM7VVObqv0iz6AoXXn6hNgWnKznBRFZ"] [ADe,APU,iq] (Be AHC)
def Uq(a c:Int):AA Int:=br (decide (a>c)) (some a) (some c)
def iu:=gZ sW CZ Bw ["1aVBwVYTJIkitczxfpxhS"] [] (Ah Uq)
def AHD(a:Ae)(c e:Int):AA Int:=gd (a.CE≠0) (bd (Uq 0 (w64 (c-w64 (e.tdiv a.CE)))) fun g=>some g)
def APW:=gZ [.v (.st 1),.v .i,.v .i] CZ Nv ["77vkAv8lYavmQWxJVlu14okU"] [iu] (GA AHD)
def AHE(c:Ae)(a:AM)(e:Int):AA Int:=bd (ADP c a e) fun g=>br (!g) (some (-1)) (bd (AHD c a.Cv (w64 (e-a.Since))) fun h=>some h)
def APX:=gZ RJ CZ Nv ["E7BgAVfYj59unQtR8ZW0sHB0OpCIGOYhdtdPi3GBGJ0d"] [ABP,APW] (GA AHE)
def bY(a:AM)(e:Int)(c:Bool):AA (Ad×Bool):=br c (some (Ad.mk 0 0 0 0,false)) (some (Ad.mk e a.Ay a.Id a.BB,true))
def mc(e:Ae)(a:AM)(g:Int):AA (Ad×Bool):=bd (AHE e a g) fun c=>br (decide (c<0)) (jn (bY a c) true) (jn (bY a c) (a.State != 1))
def ADj:=gZ RJ (.ret [(.st 4),.b]) [.cell 6 (some 4),.tmp 7] ["2bvrFZwXwSgojDDViILYdF7t2nFJ60w1NPZh08kufRvomouJH9bPSBCb85U4O0VcoNEdI59ZW3Yq9"] [APX] (GA mc)
def Ur(a:List Ad):AA (List Ad):=gd (0+a.length<=lim) (some ([]++a))
def rM:=gZ jC jH Ca ["UY3YsfG7qm6765Fm"] [] (Be Ur)
def ba(c:List Ad)(e:Ad)(a:Int):AA (List Ad):=gd (0<=a/\a<=c.length) (bd (Ur (e8 a.toNat c)) fun g=>gd (e9 g+[e].length<=lim) (bd (Ur (e8 a.toNat c)) fun h=>gd (e9 h+[e].length<=lim) (eqv (g++[e]) (h++[e]) (gd (0<=a/\a<=c.length) (gd ((g++[e]).length+(g0 a.toNat c).length<=lim) (some (g++[e]++g0 a.toNat c)))))))
def Ut(e:List Ad)(g:Ad)(c:Int->AA (List Ad))(a:Int)(h:Bool):AA (List Ad):=br h (c (w64 (a+1))) (jn (ba e g) a)
def bc(a:List Ad)(e:Ad)(g:Int->AA (List Ad))(c:Int):AA (List Ad):=br (decide (c<a.length)) (bd (at? a c) fun h=>bd (wv h e) fun j=>jn (Ut a e g c) j) (jn (Ut a e g c) false)
def bZ(a:List Ad)(c:Ad):AA (List Ad):=A3 (bc a c) big 0
def ADk:=gZ ASl jH Bw ["FAUqMUjl1H010zydhAL5DkZKhHgy39VU1OzWJ2Z1op7SdsLXg8GIff2vLHlvMqQ0CTWG9kCggJidmZbi","U3I7ingzyNoJeykN7mI1fkmxzx4PVhDsOa9VylQOECnm"] [ADf,rM] (Ah bZ)
def bh(c:List Ad×Int->AA (List Ad))(e:Int)(a:List Ad):AA (List Ad):=c (a,w64 (e-1))
def bg(a:List Ad×Int->AA (List Ad))(c:List Ad)(e:Int)(h:Ad×Bool)(g:Bool):AA (List Ad):=br g (bd (bZ c h.fst) fun j=>jn (bh a e) j) (jn (bh a e) c)
def xC(a:List Ad):AA (List Ad):=some a
def xD(h:Ae)(j:List AM)(E q:Int)(g:List Ad×Int->AA (List Ad))(H:List Ad×Int):AA (List Ad):=let (e,a):=H;br (decide (a>=0)) (bd (at? j a) fun y=>bd (mc h y q) fun c=>bd (mc h y q) fun B=>eqv c.snd B.snd (vG c.fst B.fst (br c.snd (bd (at? j a) fun G=>jn (bg g e a c) (G.AY==E)) (jn (bg g e a c) false)))) (jn xC e)
def me(c:Ae)(a:List AM)(e g:Int):AA (List Ad):=A3 (xD c a e g) big ([],w64 ((↑a.length:Int)-1))
def rN:=gZ [.v (.st 1),.v (.l (.st 2)),.v .i,.v .i] jH [.tmp 8] ["2P4kmFYsMuVpIH5brVB91dX7lX17lclHFj1b4VdbVLLkrMiNxUE8nJP1LHClimXuuUKRAeyemftPxJS1","ZuOLnwAWxJwX5TmVW8YpT5mX8qpleIFRdg1klstCuVixEz9F7hG8HNyNMKVxHNVNdDGN48a2zi76HoA2","UjLNeOlHDcGn6dv9qntoR"] [ADj,ADk] (UN me)
def xE(_:PUnit):AA Bool:=some true
def bj(g j:List Ad)(h:Int->AA Bool)(a:Int):AA Bool:=br (decide (a<g.length)) (bd (at? g a) fun c=>bd (at? j a) fun e=>br (!(c.Level==e.Level&&(c.Ay==e.Ay&&(c.Id==e.Id&&(c.BB==e.BB&&true))))) (some false) (h (w64 (a+1)))) (jn xE ())
def AHF(a c:List Ad):AA Bool:=br ((↑a.length:Int) != c.length) (some false) (A3 (bj a c) big 0)
def APY:=gZ AEt CI Bw ["fGUTGynPhLb5q89cRLBfTer3AD8nq688PDdFY7kMsO6vxVhYIpC6EoNXPFMioJ"] [] (Ah AHF)
def bk(c:List A7)(e:A7)(a:Int):AA (List A7):=gd (0<=a/\a<=c.length) (gd (0+(e8 a.toNat c).length<=lim) (gd (([]++e8 a.toNat c).length+[e].length<=lim) (gd (0<=a/\a<=c.length) (gd (([]++e8 a.toNat c++[e]).length+(g0 a.toNat c).length<=lim) (some ([]++e8 a.toNat c++[e]++g0 a.toNat c))))))
def Uu(e:List A7)(g:A7)(c:Int->AA (List A7))(a:Int)(h:Bool):AA (List A7):=br h (c (w64 (a+1))) (jn (bk e g) a)
def bm(a:List A7)(e:A7)(g:Int->AA (List A7))(c:Int):AA (List A7):=br (decide (c<a.length)) (bd (at? a c) fun h=>bd (xA h e) fun j=>jn (Uu a e g c) j) (jn (Uu a e g c) false)
def mg(a:List A7)(c:A7):AA (List A7):=A3 (bm a c) big 0
def rO:=gZ ASm Tv Bw ["1TDynPqBJOQt2IqEBXhvVGmGer0CPNoIHMbQh5B4hauFgIls55aj5GF0lY33FZ4TwCrdLdos3NtB6597","bAB6ZfOrc76yrEmp"] [ADi] (Ah mg)
def xG(a:List A7):AA (List A7):=some a
def bn(c:List A7)(g:List A7×Int->AA (List A7))(q:List A7×Int):AA (List A7):=let (e,a):=q;br (decide (a<(e9 c))) (bd (at? c a) fun y=>bd (at? c a) fun h=>bd (mg e h) fun j=>g (j,w64 (a+1))) (jn xG e)
def xF(a:Av):AA (List A7):=bd (Y7 a) fun c=>br (!c) (some []) (bd (w7 a) fun e=>A3 (bn e) big ([],0))
def ADl:=gZ Ts Tv Ca ["2ov3j8nkkRiFFmvCTQfaUgMiiftBbyGNbbHW7OMweU47MOl5Yc1axasNzYXDlGDwk2WwuHbOjMPK3nC"] [iq,ADh,rO] (Be xF)
def bt(c:List A7×Int->AA (List A7))(e:Int)(a:List A7):AA (List A7):=c (a,w64 (e+1))
def bq(e:List AM)(c:List A7×Int->AA (List A7))(g:List A7)(a:Int)(h:Bool):AA (List A7):=br h (bd (at? e a) fun j=>bd (at? e a) fun q=>bd (mg g (A7.mk j.Cq q.Id)) fun y=>jn (bt c a) y) (jn (bt c a) g)
def xI(a:List A7):AA (List A7):=some a
def bu(a:List AM)(h:Int)(g:List A7×Int->AA (List A7))(y:List A7×Int):AA (List A7):=let (e,c):=y;br (decide (c<a.length)) (bd (at? a c) fun j=>br (j.State==2) (bd (at? a c) fun q=>jn (bq a g e c) (q.AY==h)) (jn (bq a g e c) false)) (jn xI e)
def xH(a:List AM)(c:Int):AA (List A7):=A3 (bu a c) big ([],0)
def ADm:=gZ QO Tv Bw ["Xcl3Tu3zrOUob880K6l8yPI384wPxCcejQR2YPD4S1qwJbgwu1roKXqVir2TeksFwV1VQ68bghloNR7l","I6A4OTB4fOqdQRa70ZDb5y1d8gN5KVigDhK"] [rO] (Ah xH)
def xJ(_:PUnit):AA Bool:=some true
def bw(c j:List A7)(h:Int->AA Bool)(a:Int):AA Bool:=br (decide (a<c.length)) (bd (at? c a) fun e=>bd (at? j a) fun g=>br (!(e.At==g.At&&(e.Id==g.Id&&true))) (some false) (h (w64 (a+1)))) (jn xJ ())
def AHG(a c:List A7):AA Bool:=br ((↑a.length:Int) != c.length) (some false) (A3 (bw a c) big 0)
def APZ:=gZ AEu CI Bw ["2XrSM3coj2c7jNQ3zv0qyvxS13Rkejh2IY3aH6Mmj3eifieo7gymj4nL3pFyym"] [] (Ah AHG)
def bz(c:Int×Int->AA Int)(e a:Int):AA Int:=c (a,w64 (e+1))
def Uv(g:List AM)(c:Int×Int->AA Int)(e a:Int)(h:Bool):AA Int:=br h (bd (at? g a) fun j=>jn (bz c a) (w64 (e+j.BB))) (jn (bz c a) e)
def xL(a:Int):AA Int:=some a
def b6(a:List AM)(h:Int)(g:Int×Int->AA Int)(E:Int×Int):AA Int:=let (e,c):=E;br (decide (c<a.length)) (bd (at? a c) fun j=>br (j.State==2) (bd (at? a c) fun q=>br (q.AY==h) (bd (at? a c) fun y=>bd (ED y.BB 1 6) fun B=>jn (Uv a g e c) B) (jn (Uv a g e c) false)) (jn (Uv a g e c) false)) (jn xL e)
def xK(a:List AM)(c:Int):AA Int:=A3 (b6 a c) big (0,0)
def ADn:=gZ QO CZ Bw ["17Zn2x5SVEye2lX2y8i2dinTrZCETDRXo5xQUmw74f20tow0a8lmjtWycKsFZQfPXZdFdmn0u9gBn782","ufRQ5qj824OBEyXXaOhoH49LnIMxoYfiD55"] [Gx] (Ah xK)
def b8(a:Int×Int->AA Int)(c e:Int):AA Int:=a (e,w64 (c+1))
def b7(g:List AM)(c:Int×Int->AA Int)(e a:Int)(h:Bool):AA Int:=br h (bd (at? g a) fun j=>jn (b8 c a) (w64 (e+j.BB))) (jn (b8 c a) e)
def xM(a:Int):AA Int:=some a
def b9(a:List AM)(h:Int)(g:Int×Int->AA Int)(B:Int×Int):AA Int:=let (e,c):=B;br (decide (c<a.length)) (bd (at? a c) fun j=>br (j.Bk==h) (bd (at? a c) fun q=>bd (ED q.BB 1 6) fun y=>jn (b7 a g e c) y) (jn (b7 a g e c) false)) (jn xM e)
def mi(a:List AM)(c:Int):AA Int:=A3 (b9 a c) big (0,0)
def ADo:=gZ QO CZ Bw ["GHpJ3c12R2zN2gn4NkQ4NmtxyMvkXAAhrQjfxB5sK77jNYnkERrbuMtfJOP4HurTtwUYqpDMYNlzJ78F","XcVOhOSiI2uC"] [Gx] (Ah mi)
def OO(a:Bool):AA Bool:=some a
def AHH(g:Ae)(a:AX)(c:List AM)(e h:Int):AA Bool:=bd (AHC a) fun j=>br j (bd (me g c e h) fun q=>bd (AHF a.Row q) fun y=>br y (bd (xF a.Bq) fun B=>bd (xH c e) fun E=>bd (AHG B E) fun G=>br G (bd (xK c e) fun H=>br (a.AZ.EZ==H) (bd (mi c e) fun I=>jn OO (a.AZ.Fa==I)) (jn OO false)) (jn OO false)) (jn OO false)) (jn OO false)
def APa:=gZ ASn CI [.tmp 10] ["4oVaoqYsZ9lCUx8lWpoZ9w5z5NAtoIfy8NqlqKJMh1RsnxRnmAwsAyxbXKmA5pfzJ6KqnWlxT1O9DjGe","We5n3Fx5rCwmpG49znwQeqaH4AMotusWD4t87jj6sAehTpmbnIOZ9M2FiLlQl4YCIwpgZZ"] [APV,rN,APY,ADl,ADm,APZ,ADn,ADo] (AVn AHH)
def bH(a:Int×Int->AA Int)(c e:Int):AA Int:=a (e,w64 (c+1))
def wN(a:Int):AA Int:=some a
def bI(g:List AM)(h:Int)(e:Int×Int->AA Int)(q:Int×Int):AA Int:=let (c,a):=q;br (decide (a<g.length)) (bd (at? g a) fun j=>br (j.AY==h) (jn (bH e a) (w64 (c+1))) (jn (bH e a) c)) (jn wN c)
def mV(a:List AM)(c:Int):AA Int:=A3 (bI a c) big (0,0)
def rJ:=gZ QO CZ Bw ["5FHZGAMr1FvSguPaGhBsCX3wzkECJCKm8VVwU5das4EZo1w7zVRqrId"] [] (Ah mV)
def Qk(a:Int->AA Bool)(c:Int)(e:Bool):AA Bool:=br e (some false) (a (w64 (c+1)))
def wP(_:PUnit):AA Bool:=some true
def bJ(a:AF)(e:Int->AA Bool)(c:Int):AA Bool:=br (decide (c<a.AH.length)) (bd (at? a.AH c) fun q=>bd (at? a.AQ.AZ c) fun y=>br (q.AZ.Total != y) (jn (Qk e c) true) (bd (at? a.AH c) fun g=>bd (AHH a.AQ g a.AG c a.Now) fun h=>br (!h) (jn (Qk e c) true) (bd (mV a.AG c) fun j=>jn (Qk e c) (decide (j>a.AQ.Room))))) (jn wP ())
def Ue(a:AF)(c:Bool):AA Bool:=br c (some false) (A3 (bJ a) big 0)
def K8(a:AF)(e:Bool):AA Bool:=br e (some false) (bd (AG9 a) fun g=>br (!g) (jn (Ue a) true) (bd (AHA a) fun c=>jn (Ue a) (!c)))
def Ud(a:AF):AA Bool:=bd (ADO a.AQ) fun g=>br (!g) (jn (K8 a) true) (bd (ED a.Now 0 1000000) fun c=>br (!c) (jn (K8 a) true) (bd (ED a.Ay 1 1000001) fun e=>br (!e) (jn (K8 a) true) (br (decide ((↑a.AG.length:Int)>40)) (jn (K8 a) true) (jn (K8 a) ((↑a.AH.length:Int) != a.AQ.AZ.length)))))
def Ti:=gZ Ns CI Ca ["P6OTnLClurESoFgzUCLdxbnEhFeE50nRWm09PhbSx9LYb34MZHsxMyFMjxiPOif3H9a6wruthytmjPQb","ZQFHzPOm7h3PDlVzhfN61Wvwxm0WDNnJ3UPjW5yvi3yRbItiQlfzUr3I2GUBsbumpV0ju9FUt9mUniNC","SMzqrNdVX2y3XjwZdSVZLAi72VOq6dAPyyMZ0Yuyhl8bquMMKMp5yOwEXqAwZdWuUyB0hPu1mr3654dW","JlpmfGg5Em0Nfiiqs6x57fztYDZgkRok9KIQpa4"] [ABO,Gx,APS,APT,APa,rJ] (Be Ud)
def bK(a:Bool):AA Bool:=some a
def QL(a:B3):AA Bool:=br (decide ((↑a.Data.length:Int)<=20000)) (bd (ED a.Safe 0 (↑a.Data.length:Int)) fun c=>jn bK c) (jn bK false)
def RF:=gZ Xs CI Ca ["Dy5djvDcurlf3LS5CyLwWQWfAo6qvTl7S8omx"] [Gx] (Be QL)
def Uf(a:Bool):AA Bool:=some a
def mW(a:Br):AA Bool:=bd (QL a.Log) fun c=>br c (bd (QL a.EJ) fun e=>br e (bd (QL a.Odd) fun g=>jn Uf g) (jn Uf false)) (jn Uf false)
def rK:=gZ Kg CI Ca ["2cgVae2BYRtd8C6GYLZOcxXNHJD2K5b4MQJ"] [RF] (Be mW)
def QM(a:Int):AA Bool:=bd (ED a 0 9999) fun c=>some c
def APR:=gZ Xt CI Ca ["48IPrjLJ1u7jbr"] [Gx] (Be QM)
def GW(a:Bool):AA Bool:=some a
def OK(a:Bo)(e:Bool):AA Bool:=br e (bd (QM a.Id) fun g=>br g (jn GW (a.Kind==a.Kind&&(a.Id==a.Id&&(a.AY==0&&(a.Bk==0&&(a.BB==0&&(a.Cv==0&&true))))))) (jn GW false)) (br (a.Kind==3) (bd (QM a.AY) fun h=>br h (bd (QM a.BB) fun c=>br c (jn GW (a.Kind==a.Kind&&(a.Id==0&&(a.AY==a.AY&&(a.Bk==0&&(a.BB==a.BB&&(a.Cv==0&&true))))))) (jn GW false)) (jn GW false)) (br (a.Kind==6) (some (a.Kind==a.Kind&&(a.Id==0&&(a.AY==0&&(a.Bk==0&&(a.BB==0&&(a.Cv==0&&true))))))) (some false)))
def Ug(a:Bo):AA Bool:=br (a.Kind==1) (bd (QM a.Id) fun c=>br c (bd (QM a.AY) fun e=>br e (bd (ED a.Bk (-1) 9999) fun g=>br g (bd (QM a.BB) fun h=>br h (bd (QM a.Cv) fun j=>jn GW j) (jn GW false)) (jn GW false)) (jn GW false)) (jn GW false)) (br (a.Kind==2) (jn (OK a) (a.Kind==2)) (br (a.Kind==4) (jn (OK a) (a.Kind==4)) (br (a.Kind==5) (jn (OK a) (a.Kind==5)) (jn (OK a) (a.Kind==7)))))
def il:=gZ sU CI Ca ["9vwI6SRMCH6Zri5koyPfSiBz5LHMTDl3OyMmLGW1MIwKHvBFBbtmXoPuEL49epAMYySEfDwEnQqJzSUw","IIa6WPOIMKwPdHQChWwe3KsKpXE2acGJiq62cTooKED5Mmz49rGWBOPSA54F5nqUVG9k3lxcMLSTFsIU","G41ZCIiH0brllRtVv5tg0pX7bY1NfbT2UecFAUml4f0Q63vzzy7WegggTBCjzAY7ea3z8ziBs8Xx9cpl","CQ1f8nbasAqLh3LowmtoNWmaj4BDAmGT6jpxQey3h7DSJ"] [APR,Gx] (Be Ug)
def wS(_:PUnit):AA Bool:=some true
def bL(c:BD)(e:Int->AA Bool)(a:Int):AA Bool:=br (decide (a<c.Laid.length)) (bd (at? c.Laid a) fun g=>bd (Ug g) fun h=>br (!h) (some false) (e (w64 (a+1)))) (jn wS ())
def OL(a:BD)(c:Bool):AA Bool:=br c (some false) (A3 (bL a) big 0)
def Y5(a:BD):AA Bool:=bd (Ud a.Az) fun c=>br (!c) (jn (OL a) true) (bd (mW a.Bl) fun e=>br (!e) (jn (OL a) true) (br (decide ((↑a.Laid.length:Int)>8)) (jn (OL a) true) (bd (ED a.Seq (↑a.Laid.length:Int) 1000000) fun g=>jn (OL a) (!g))))
def Xk:=gZ Tt CI Ca ["2LHhITOfAoFuz63KoDkVVVPwapERpG6MKBjJ882uKm8Sg0YaZRO43puDon8FxNr3W9GpHprLMIJ5IG7t","EDABbicqVL8tDF71kbta4UzV6E4AvLET4"] [Ti,rK,Gx,il] (Be Y5)
def Uh(a:Bool):AA Bool:=some a
def C0(a c e:Int):AA Bool:=br (decide (a>=c)) (jn Uh (decide (a<=e))) (jn Uh false)
def Eb:=gZ AEr CI Nv ["S8D0QG6XYinbnkmU3Op4jrJCz"] [] (GA C0)
def Jt(a:Bool):AA Bool:=some a
def wT(a:Ae)(_:PUnit):AA Bool:=bd (C0 a.Ce 1 5) fun j=>br j (bd (C0 a.Room 1 10) fun q=>br q (bd (C0 a.BB 1 6) fun y=>br y (bd (C0 a.CE 1 12) fun B=>br B (bd (C0 a.B0 1 8) fun c=>br c (bd (C0 a.Cd 1 4) fun e=>br e (bd (C0 a.C3 1 3) fun g=>br g (bd (C0 a.Rest 0 8) fun h=>jn Jt h) (jn Jt false)) (jn Jt false)) (jn Jt false)) (jn Jt false)) (jn Jt false)) (jn Jt false)) (jn Jt false)
def bM(a:Ae)(e:Int->AA Bool)(c:Int):AA Bool:=br (decide (c<a.AZ.length)) (bd (at? a.AZ c) fun g=>bd (C0 g 1 60) fun h=>br (!h) (some false) (e (w64 (c+1)))) (jn (wT a) ())
def Y6(a:Ae):AA Bool:=bd (C0 (↑a.AZ.length:Int) 1 4) fun c=>br (!c) (some false) (A3 (bM a) big 0)
def Xl:=gZ Tr CI Ca ["UWilZk7pgH0AMbyM5ZbRHlqAPA4H8AGb06YTaqQvplYmUgUmDuotXoeEKJwZWsNhQ76YLyNgW6gOmx7m","R6p8oTtudVyHNzaGkdwPBDM5TJ9c1rPp1AXJy38fK7hH0YJJNy1vG3ysF4U0p2VwIIsDsL2dDWMSdSJF","Vw4srDwZkheNqFaPh"] [Eb] (Be Y6)
def Lq(a c:Int):AA Bool:=bd (C0 a 0 (w64 (c-1))) fun e=>some e
def Pj:=gZ sW CI Bw ["15elfBIm6INH0um"] [Eb] (Ah Lq)
def OP(a:Bool):AA Bool:=some a
def Mq(c:Ae)(a:AM)(e:Int)(g:Bool):AA Bool:=br g (some false) (br (a.State==1) (bd (C0 a.Cq 0 (w64 (e+c.Rest))) fun h=>br h (jn OP true) (br (a.State==2) (bd (C0 a.Cq 1 (w64 (e+c.B0))) fun j=>jn OP j) (jn OP false))) (br (a.State==2) (bd (C0 a.Cq 1 (w64 (e+c.B0))) fun q=>jn OP q) (jn OP false)))
def LA(c:Ae)(a:AM)(e:Int)(q:Bool):AA Bool:=br q (some false) (bd (C0 a.BB 1 c.BB) fun y=>br (!y) (jn (Mq c a e) true) (bd (Lq a.Cv c.Ce) fun B=>br (!B) (jn (Mq c a e) true) (bd (C0 a.Since 0 e) fun g=>br (!g) (jn (Mq c a e) true) (bd (C0 a.Ay 1 1000000) fun h=>br (!h) (jn (Mq c a e) true) (bd (Lq a.DB c.Cd) fun j=>jn (Mq c a e) (!j))))))
def cD(c:Ae)(a:AM)(e:Int):AA Bool:=bd (Y6 c) fun y=>br (!y) (jn (LA c a e) true) (bd (C0 e 0 1000000) fun g=>br (!g) (jn (LA c a e) true) (bd (C0 a.Id 1 999) fun h=>br (!h) (jn (LA c a e) true) (bd (Lq a.AY (↑c.AZ.length:Int)) fun j=>br (!j) (jn (LA c a e) true) (bd (C0 a.Bk (-1) (w64 ((↑c.AZ.length:Int)-1))) fun q=>br (!q) (jn (LA c a e) true) (jn (LA c a e) (a.Bk==a.AY))))))
def iv:=gZ RJ CI Nv ["NJ3hhJup6Tvfxs1SykOkC0g3uj2WlHwOABGXc5dXgbiMESLG22c0aA9yywEgBwYirn211VkQ6tM1Emem","QBNxzyVDWh0omC2eMOzKbIbMViqdz5H11aJOd1OtWk0eHhhOpOI2ZwJ3s2y8mhzy13Rs0Dvt63lvc6oz","FyPp5NpLMAMXZuSQZUFmHjYysfjug35bBJchxuq5Gn1pWafgjeLUXWYWQoJZ0o4BHTLI08jGmaHqZklf","egaWnF2GtnzJFUSxxIB7lECY7GLVEJHFjS08WrPDw"] [Xl,Eb,Pj] (GA cD)
def cE(a:Int×Int->AA Int)(c e:Int):AA Int:=a (e,w64 (c+1))
def xS(a:Int):AA Int:=some a
def cF(g:List AM)(h:Int)(e:Int×Int->AA Int)(q:Int×Int):AA Int:=let (c,a):=q;br (decide (a<g.length)) (bd (at? g a) fun j=>br (j.AY==h) (jn (cE e a) (w64 (c+1))) (jn (cE e a) c)) (jn xS c)
def mj(a:List AM)(c:Int):AA Int:=A3 (cF a c) big (0,0)
def rT:=gZ QO CZ Bw ["15xzhZ9SPvNoBNVPTWvIx0PX1Yd7bnKr9ZtHG5zsczQBMUW4tZ4hUCosMG2Cr6S3uO"] [] (Ah mj)
def Mr(a:Bool):AA Bool:=some a
def Lr(a:BJ):AA Bool:=bd (C0 a.Total 1 60) fun c=>br c (bd (C0 a.DY 0 a.Total) fun e=>br e (bd (C0 a.EZ 0 a.Total) fun g=>br g (bd (C0 a.FM 0 a.Total) fun h=>br h (br (w64 (w64 (a.DY+a.EZ)+a.FM)==a.Total) (bd (C0 a.Fa 0 a.FM) fun j=>jn Mr j) (jn Mr false)) (jn Mr false)) (jn Mr false)) (jn Mr false)) (jn Mr false)
def RG:=gZ [.v (.st 3)] CI Ca ["acWJim1voLo4mCjEMZ2J5U8F5zhxjLe0gdXaRT2ERoOHYKfrdMuBqtvSJ6bgNGnpXJGzVOLFMILN3vw3","iYsSSLdpoWLoNliEhDNVv6AWJCzyAioLgwH"] [Eb] (Be Lr)
def AHL(a:Int):AA Bool:=some (a != a)
def APg:=gZ Xt CI Ca ["VkA0hXa2gWR"] [] (Be AHL)
def cG(a c:Int):AA Int:=bd (AHL a) fun g=>bd (AHL c) fun e=>br g (br e (some 0) (some (-1))) (br e (some 1) (br (decide (a<c)) (some (-1)) (br (decide (a>c)) (some 1) (some 0))))
def ADq:=gZ sW CZ Bw ["2A4Qe0GUfPgrEbduE5vISkSNisKHETGo7TZx432QHqRdwy3xbuPrV4ux8cQ"] [APg] (Ah cG)
def Sp(a c:Ad):AA Int:=bd (cG a.Level c.Level) fun e=>br (e != 0) (some e) (bd (cG a.Ay c.Ay) fun g=>some g)
def Io:=gZ sV CZ Bw ["cM1Arun5ny6o9RblUZDJQi1zEiQSoPAYoKYx"] [ADq] (Ah Sp)
def xT(a c:Ad):AA Bool:=bd (Sp a c) fun e=>some (decide (e<0))
def ADr:=gZ sV CI Bw ["QMghFkkuYF84eSv7UHb"] [Io] (Ah xT)
def AOP(a:Ad)(c:Int):AA Bool:=some (a.Id==c)
def rU:=gZ [.v (.st 4),.p .i] CI [.tmp 3] ["CJTTyJpHSgrW8ar"] [] (Ah AOP)
def AbJ:YF:=⟨[rU],[.v (.l (.st 4)),.f rU.x [(true,.i)]],[0],.ret [.i],[.tmp 4],dY ["2Kb7FzvzL1n5nN5Yt2X42cMvl6jWf6S9GHqFAEiIgb19BXP4kfY3pTDwHlESX2t4"] [] [.Dm 16 (.tmp 11) [.v,.p] [.tmp 15]]⟩
def xU(_:PUnit):AA Int:=some (-1)
def xV(e:List Ad)(a:Int)(g:Int->AA Int)(c:Int):AA Int:=br (decide (c<e.length)) (bd (at? e c) fun h=>bd (AOP h a) fun j=>br j (some c) (g (w64 (c+1)))) (jn xU ())
def AOQ(c:List Ad)(a:Int):AA Int:=A3 (xV c a) big 0
def APh:GF:=AbJ.gf rfl rfl (fun a=>AOQ a.1 a.2.1.1) (fun a=>by kernel_rfl)
def AbK:YF:=⟨[rU],[.v (.l (.st 4)),.v .i],[],.ret [.i],[.tmp 4],dY ["1aHLTamSZobl8E"] [] [.MK 6 0 [.tmp 3],.call 7 APh [0] rfl [.tmp 5,.tmp 6]]⟩
def ml(a:List Ad)(c:Int):AA Int:=bd (AOQ a c) fun e=>some e
def ADs:GF:=AbK.EE (Ah ml)
end Lv
set_option maxRecDepth 100000
namespace Lv
open Go (IntKind BinOp UnOp)
open Y (YF qn qf qt qr q1 qd qm qa qo ql qL qb qi qx qp qq qc qz qe qk qK qB qw qu qj Kp wn wf wt w1 sw sq sr wm wM wo wO wl wL wk wK wz wZ wx wX wb wB wi wI wr wR wq wQ we wE wc wY wj wh cv ca cx cn ce bl)
def OQ(a:Int->AA Bool)(c:Int)(e:Bool):AA Bool:=br e (some false) (a (w64 (c+1)))
def Qm(a:Int->AA Bool)(c:Int)(e:Ad)(j:Bool):AA Bool:=br j (some false) (bd (Lq e.Level 5) fun q=>br (!q) (jn (OQ a c) true) (bd (C0 e.Ay 1 1000000) fun y=>br (!y) (jn (OQ a c) true) (bd (C0 e.Id 1 999) fun g=>br (!g) (jn (OQ a c) true) (bd (C0 e.BB 1 6) fun h=>jn (OQ a c) (!h)))))
def xW(_:PUnit):AA Bool:=some true
def cH(c:List Ad)(g:Int->AA Bool)(a:Int):AA Bool:=br (decide (a<c.length)) (bd (at? c a) fun e=>br (decide (a>0)) (bd (at? c (w64 (a-1))) fun q=>bd (xT q e) fun y=>br (!y) (jn (Qm g a e) true) (gd (0<=a/\a<=c.length) (bd (ml (e8 a.toNat c) e.Id) fun h=>jn (Qm g a e) (decide (h>=0))))) (gd (0<=a/\a<=c.length) (bd (ml (e8 a.toNat c) e.Id) fun j=>jn (Qm g a e) (decide (j>=0))))) (jn xW ())
def mn(a:List Ad):AA Bool:=br (decide ((↑a.length:Int)>10)) (some false) (A3 (cH a) big 0)
def ADt:=gZ jC CI Ca ["3cWmzbyJszuhlcpZbxv01fSNHHImZD5eBUY0WwfFVypP3YU2vCnRBAPAYJO14SqzuazcLqpEXxg98mLy","4WmmZ2O7SZwSWWdbznSPBOk7Ac0edhJrvOhRtiHF3pCG9jzGOakdELYvDSt359ldvVb7zke0q25d8xad","UKR1HQGlVeYqGxrG3X0qpurjQiynqYWqME1uhHMuME"] [ADr,ADs,Pj,Eb] (Be mn)
def cI(a:Bool):AA Bool:=some a
def mo(a:A7):AA Bool:=bd (C0 a.At 1 1000008) fun c=>br c (bd (C0 a.Id 1 999) fun e=>jn cI e) (jn cI false)
def rV:=gZ [.v (.st 5)] CI Ca ["5FrdUgBZLp6GNOrW6ZL9hVuyeRub7J"] [Eb] (Be mo)
def Qn(a c:A7):AA Int:=bd (cG a.At c.At) fun e=>br (e != 0) (some e) (bd (cG a.Id c.Id) fun g=>some g)
def GP:=gZ AEs CZ Bw ["cM1Arun5ny6o9RblUZDJQi1zEiQSoPAYoKYx"] [ADq] (Ah Qn)
def Qo(g:((List (Int×Int))×Int×Int)->AA Bool)(e:List (Int×Int))(h j:Int)(a:A7)(c:Bool):AA Bool:=br c (some false) (g (Iq e a.Id (w64 (Lc e a.Id+1)),w64 (h+1),w64 (j+1)))
def xX(e:((List (Int×Int))×Int×Int)->AA Bool)(g:Int)(h:((List (Int×Int))×Int)):AA Bool:=let (a,c):=h;e (a,c,w64 (g+1))
def cL(G:((List (Int×Int))×Int×Int)->AA Bool)(E:Int)(B:List A7)(h:((List (Int×Int))×Int×Int)->AA Bool)(H:((List (Int×Int))×Int×Int)):AA Bool:=let (e,g,c):=H;br (decide (c<(e9 B))) (bd (at? B c) fun a=>bd (mo a) fun j=>br (!j) (jn (Qo h e g c a) true) (br (a.At.tmod 9 != E) (jn (Qo h e g c a) true) (br (decide (c>0)) (bd (at? B (w64 (c-1))) fun q=>bd (Qn q a) fun y=>jn (Qo h e g c a) (decide (y>0))) (jn (Qo h e g c a) false)))) (jn (xX G E) (e,g))
def cJ(a:Bool):AA Bool:=some a
def Uw(e:((List (Int×Int))×Int)):AA Bool:=let (c,a):=e;br (decide (a<=10)) (jn cJ ((↑(e9 c):Int)==a)) (jn cJ false)
def cK(c:Av)(h:((List (Int×Int))×Int×Int)->AA Bool)(q:((List (Int×Int))×Int×Int)):AA Bool:=let (e,g,a):=q;br (decide (a<c.An.length)) (bd (at? c.An a) fun j=>A3 (cL h a j) big (e,g,0)) (jn Uw (e,g))
def Sq(a:Av):AA Bool:=br ((↑a.An.length:Int) != 9) (some false) (A3 (cK a) big ([],0,0))
def iw:=gZ Ts CI Ca ["1byL8Vb6cQryHcKGUDc78M1lIbD5rC54BjPMDO5kGl0PDq0n2Xzk3cVP7GWXqbVUaVg9r6NL469lUUKj","ZAPTuEtWplInOLg5SWkwFwjgQbdnHffzfNmOJIQEG4mnXTVSeB7THMqwNz16Cd0ZRg5Xrk0YhDilP10o","amq909EqIZasX3mPiu185BRLvNBeuPILma9INMd16qEaGrgqVavWb68MzMim27TORbx46SxtaJbRqU7v","d85ziyuhatEfsN4bDybVQl4c6yJ86mm3sb9"] [rV,GP] (Be Sq) [.mmk 13,.Si 56 (.tmp 53) (.tmp 55),.RY (.tmp 53) (.tmp 55) (.tmp 57),.Sj 66 (.tmp 65)]
def Ux(a:Bool):AA Bool:=some a
def AHM(a:AX):AA Bool:=bd (Lr a.AZ) fun c=>br c (bd (mn a.Row) fun e=>br e (bd (Sq a.Bq) fun g=>jn Ux g) (jn Ux false)) (jn Ux false)
def APi:=gZ jD CI Ca ["IdjITM7VVObqv0iz6AoXXn6hNgWnKznBRFZ"] [RG,ADt,iw] (Be AHM)
def Uy(a:Ae)(c e:Int)(g:Bool):AA Int:=br g (some (-1)) (gd (a.CE≠0) (some (if true=true then if w64 (c-w64 (e.tdiv a.CE))>0 then w64 (c-w64 (e.tdiv a.CE)) else 0 else if w64 (c-w64 (e.tdiv a.CE))<0 then w64 (c-w64 (e.tdiv a.CE)) else 0)))
def AOR(a:Ae)(c e:Int):AA Int:=bd (Y6 a) fun g=>br (!g) (jn (Uy a c e) true) (bd (Lq c a.Ce) fun h=>br (!h) (jn (Uy a c e) true) (jn (Uy a c e) (decide (e<0))))
def APj:=gZ [.v (.st 1),.v .i,.v .i] CZ Nv ["JnuheUjYN5JpXN8lWgfo2opmUbHep8lEUUGi351GMXEYVWBR2TFRTiHeNQKy"] [Xl,Pj] (GA AOR) [.mm 27 true (.k (.int .i64 0)) (.tmp 26)]
def AHN(c:Ae)(a:AM)(e:Int):AA Int:=bd (cD c a e) fun g=>br (!g) (some (-1)) (bd (AOR c a.Cv (w64 (e-a.Since))) fun h=>some h)
def APk:=gZ RJ CZ Nv ["E7BgAVfYj59unQtR8ZW0sHB0OpCIGOYhdtdPi3GBGJ0d"] [iv,APj] (GA AHN)
def cM(c:Ae)(a:AM)(e:Int)(g:Bool):AA (Ad×Bool):=br g (some (Ad.mk 0 0 0 0,false)) (bd (AHN c a e) fun h=>some (Ad.mk h a.Ay a.Id a.BB,true))
def mq(c:Ae)(a:AM)(e:Int):AA (Ad×Bool):=bd (cD c a e) fun g=>br (!g) (jn (cM c a e) true) (jn (cM c a e) (a.State != 1))
def rW:=gZ RJ (.ret [(.st 4),.b]) [.cell 6 (some 4),.tmp 7] ["1rVG1jubnw7m118Rj1jrWY2bwAAEqQpG8T8x1YIOJce68QnivpexFuMLMqYoy4VVSNjIUYj2vxxV6pHB","e65AdVU6cgGOX5J"] [iv,APk] (GA mq)
def Dx{α:Type}(cmp:α->α->AA Int)(c:((List α)×Int)->AA (List α))(e:Int)(a:List α):AA (List α):=c ((a,w64 (e+1)))
def DT{α:Type}(cmp:α->α->AA Int)(j:((List α)×Int)->AA (List α))(y:Int)(q:((List α)×Int)->AA (List α))(c:List α)(a:Int)(g:Bool):AA (List α):=br g (bd (at? c (w64 (a-1))) fun B=>bd (at? c (w64 (a-1))) fun e=>bd (at? c a) fun E=>bd (at? c a) fun h=>bd (at? c a) fun G=>bd (at? c a) fun H=>bd (at? (an c a.toNat e) (w64 (a-1))) fun I=>bd (at? (an c a.toNat e) (w64 (a-1))) fun J=>q (((an c a.toNat e).set (w64 (a-1)).toNat h,w64 (a-1)))) (jn (Dx cmp j y) c)
def DV{α:Type}(cmp:α->α->AA Int)(y:Int)(h:((List α)×Int)->AA (List α))(q:Int)(j:((List α)×Int)->AA (List α))(E:((List α)×Int)):AA (List α):=match E with |(c,a)=>br (decide (a>y)) (bd (at? c a) fun G=>bd (at? c a) fun B=>bd (at? c (w64 (a-1))) fun H=>bd (at? c (w64 (a-1))) fun e=>bd (cmp B e) fun g=>jn (DT cmp h q j c a) (decide (g<0))) (jn (DT cmp h q j c a) false)
def DU{α:Type}(cmp:α->α->AA Int)(g:Int)(h:Int)(e:((List α)×Int)->AA (List α))(j:((List α)×Int)):AA (List α):=match j with |(c,a)=>br (decide (a<h)) (A3 (DV cmp g e a) big (c,a)) (some c)
def DE{α:Type}(cmp:α->α->AA Int)(c:List α)(a:Int)(e:Int):AA (List α):=A3 (DU cmp a e) big ((c,w64 (a+1)))
def Ju{α:Type}(cmp:α->α->AA Int)(e:Int)(g:Int)(q:Int)(j:((List α)×Int)->AA (List α))(G:((List α)×Int)):AA (List α):=match G with |(c,a)=>br (decide (a<q)) (bd (at? c (w64 (g+a))) fun H=>bd (at? c (w64 (g+a))) fun h=>bd (at? c (w64 (e+a))) fun I=>bd (at? c (w64 (e+a))) fun E=>bd (at? c (w64 (e+a))) fun J=>bd (at? c (w64 (e+a))) fun L=>bd (at? (an c (w64 (e+a)).toNat h) (w64 (g+a))) fun y=>bd (at? (an c (w64 (e+a)).toNat h) (w64 (g+a))) fun B=>j (((an c (w64 (e+a)).toNat h).set (w64 (g+a)).toNat E,w64 (a+1)))) (some c)
def D5{α:Type}(cmp:α->α->AA Int)(a:List α)(c:Int)(e:Int)(g:Int):AA (List α):=A3 (Ju cmp c e g) big (a,0)
def Lu{α:Type}(cmp:α->α->AA Int)(a:Int)(h:((List α)×Int)):AA (List α):=match h with |(e,c)=>bd (D5 cmp e (w64 (a-c)) a c) fun g=>some g
def Lw{α:Type}(cmp:α->α->AA Int)(e:Int)(h:((List α)×Int×Int)->AA (List α))(y:((List α)×Int×Int)):AA (List α):=match y with |(g,a,c)=>br (a != c) (br (decide (a>c)) (bd (D5 cmp g (w64 (e-a)) e c) fun j=>h ((j,w64 (a-c),c))) (bd (D5 cmp g (w64 (e-a)) (w64 (w64 (e+c)-a)) a) fun q=>h ((q,a,w64 (c-a))))) (jn (Lu cmp e) (g,a))
def HG{α:Type}(cmp:α->α->AA Int)(c:List α)(e:Int)(a:Int)(g:Int):AA (List α):=A3 (Lw cmp a) big ((c,w64 (a-e),w64 (g-a)))
def GC{α:Type}(cmp:α->α->AA Int)(a:List α):AA (List α):=some a
def KN{α:Type}(cmp:α->α->AA Int)(j:Int)(g:((List α)×Int)->AA (List α))(I:((List α)×Int)):AA (List α):=match I with |(c,a)=>br (decide (a<w64 (j-1))) (bd (at? c (w64 (a+1))) fun q=>bd (at? c (w64 (a+1))) fun e=>bd (at? c a) fun y=>bd (at? c a) fun h=>bd (at? c a) fun B=>bd (at? c a) fun E=>bd (at? (an c a.toNat e) (w64 (a+1))) fun G=>bd (at? (an c a.toNat e) (w64 (a+1))) fun H=>g (((an c a.toNat e).set (w64 (a+1)).toNat h,w64 (a+1)))) (jn (GC cmp) c)
def KI{α:Type}(cmp:α->α->AA Int)(a:List α)(c:Int)(e:Int):AA (List α):=A3 (KN cmp e) big (a,c)
def KM{α:Type}(cmp:α->α->AA Int)(e:List α)(g:Int)(h:(Int×Int)->AA (List α))(B:(Int×Int)):AA (List α):=match B with |(a,c)=>br (decide (a<c)) (bd (at? e (w64 (Dy (Go.IntKind.u64.wrap (w64 (a+c))) 1))) fun E=>bd (at? e (w64 (Dy (Go.IntKind.u64.wrap (w64 (a+c))) 1))) fun j=>bd (at? e g) fun G=>bd (at? e g) fun q=>bd (cmp j q) fun y=>br (decide (y<0)) (h ((w64 (w64 (Dy (Go.IntKind.u64.wrap (w64 (a+c))) 1)+1),c))) (h ((a,w64 (Dy (Go.IntKind.u64.wrap (w64 (a+c))) 1))))) (jn (KI cmp e g) a)
def KP{α:Type}(cmp:α->α->AA Int)(h:Int)(g:((List α)×Int)->AA (List α))(I:((List α)×Int)):AA (List α):=match I with |(c,a)=>br (decide (a>h)) (bd (at? c (w64 (a-1))) fun q=>bd (at? c (w64 (a-1))) fun e=>bd (at? c a) fun y=>bd (at? c a) fun j=>bd (at? c a) fun B=>bd (at? c a) fun E=>bd (at? (an c a.toNat e) (w64 (a-1))) fun G=>bd (at? (an c a.toNat e) (w64 (a-1))) fun H=>g (((an c a.toNat e).set (w64 (a-1)).toNat j,w64 (a-1)))) (jn (GC cmp) c)
def KK{α:Type}(cmp:α->α->AA Int)(c:List α)(e:Int)(a:Int):AA (List α):=A3 (KP cmp a) big (c,e)
def KO{α:Type}(cmp:α->α->AA Int)(g:List α)(h:Int)(e:(Int×Int)->AA (List α))(G:(Int×Int)):AA (List α):=match G with |(a,c)=>br (decide (a<c)) (bd (at? g h) fun B=>bd (at? g h) fun j=>bd (at? g (w64 (Dy (Go.IntKind.u64.wrap (w64 (a+c))) 1))) fun E=>bd (at? g (w64 (Dy (Go.IntKind.u64.wrap (w64 (a+c))) 1))) fun q=>bd (cmp j q) fun y=>br (!decide (y<0)) (e ((w64 (w64 (Dy (Go.IntKind.u64.wrap (w64 (a+c))) 1)+1),c))) (e ((a,w64 (Dy (Go.IntKind.u64.wrap (w64 (a+c))) 1))))) (jn (KK cmp g h) a)
def HZ{α:Type}(cmp:α->α->AA Int)(rE:List α->Int->Int->Int->AA (List α))(j:Int)(q:Int)(c:Int)(e:Int)(a:List α)(g:Bool):AA (List α):=br g (bd (rE a (w64 (Dy (Go.IntKind.u64.wrap (w64 (j+c))) 1)) (w64 (w64 (w64 (Dy (Go.IntKind.u64.wrap (w64 (j+c))) 1)+q)-e)) c) fun h=>some h) (some a)
def Fj{α:Type}(cmp:α->α->AA Int)(rE:List α->Int->Int->Int->AA (List α))(e:Int)(h:Int)(c:Int)(a:Int)(g:List α):AA (List α):=br (decide (w64 (Dy (Go.IntKind.u64.wrap (w64 (e+c))) 1)<w64 (w64 (w64 (Dy (Go.IntKind.u64.wrap (w64 (e+c))) 1)+h)-a))) (jn (HZ cmp rE e h c a g) (decide (w64 (w64 (w64 (Dy (Go.IntKind.u64.wrap (w64 (e+c))) 1)+h)-a)<c))) (jn (HZ cmp rE e h c a g) false)
def HY{α:Type}(cmp:α->α->AA Int)(rE:List α->Int->Int->Int->AA (List α))(e:Int)(q:Int)(g:Int)(a:Int)(c:List α)(h:Bool):AA (List α):=br h (bd (rE c e a (w64 (Dy (Go.IntKind.u64.wrap (w64 (e+g))) 1))) fun j=>jn (Fj cmp rE e q g a) j) (jn (Fj cmp rE e q g a) c)
def Fi{α:Type}(cmp:α->α->AA Int)(rE:List α->Int->Int->Int->AA (List α))(e:Int)(h:Int)(g:Int)(a:Int)(c:List α):AA (List α):=br (decide (e<a)) (jn (HY cmp rE e h g a c) (decide (a<w64 (Dy (Go.IntKind.u64.wrap (w64 (e+g))) 1)))) (jn (HY cmp rE e h g a c) false)
def HX{α:Type}(cmp:α->α->AA Int)(rE:List α->Int->Int->Int->AA (List α))(q:List α)(e:Int)(c:Int)(g:Int)(a:Int)(h:Bool):AA (List α):=br h (bd (HG cmp q a c (w64 (w64 (w64 (Dy (Go.IntKind.u64.wrap (w64 (e+g))) 1)+c)-a))) fun j=>jn (Fi cmp rE e c g a) j) (jn (Fi cmp rE e c g a) q)
def HW{α:Type}(cmp:α->α->AA Int)(rE:List α->Int->Int->Int->AA (List α))(h:List α)(e:Int)(c:Int)(g:Int)(a:Int):AA (List α):=br (decide (a<c)) (jn (HX cmp rE h e c g a) (decide (c<w64 (w64 (w64 (Dy (Go.IntKind.u64.wrap (w64 (e+g))) 1)+c)-a)))) (jn (HX cmp rE h e c g a) false)
def Jv{α:Type}(cmp:α->α->AA Int)(rE:List α->Int->Int->Int->AA (List α))(g:List α)(h:Int)(j:Int)(q:Int)(e:(Int×Int)->AA (List α))(I:(Int×Int)):AA (List α):=match I with |(a,c)=>br (decide (a<c)) (bd (at? g (w64 (w64 (w64 (w64 (Dy (Go.IntKind.u64.wrap (w64 (h+q))) 1)+j)-1)-w64 (Dy (Go.IntKind.u64.wrap (w64 (a+c))) 1)))) fun G=>bd (at? g (w64 (w64 (w64 (w64 (Dy (Go.IntKind.u64.wrap (w64 (h+q))) 1)+j)-1)-w64 (Dy (Go.IntKind.u64.wrap (w64 (a+c))) 1)))) fun y=>bd (at? g (w64 (Dy (Go.IntKind.u64.wrap (w64 (a+c))) 1))) fun H=>bd (at? g (w64 (Dy (Go.IntKind.u64.wrap (w64 (a+c))) 1))) fun B=>bd (cmp y B) fun E=>br (!decide (E<0)) (e ((w64 (w64 (Dy (Go.IntKind.u64.wrap (w64 (a+c))) 1)+1),c))) (e ((a,w64 (Dy (Go.IntKind.u64.wrap (w64 (a+c))) 1))))) (jn (HW cmp rE g h j q) a)
def Fh{α:Type}(cmp:α->α->AA Int)(rE:List α->Int->Int->Int->AA (List α))(e:List α)(g:Int)(h:Int)(j:Int)(q:(Int×Int)):AA (List α):=match q with |(a,c)=>A3 (Jv cmp rE e g h j) big (a,c)
def KL{α:Type}(cmp:α->α->AA Int)(rE:List α->Int->Int->Int->AA (List α))(g:List α)(a:Int)(e:Int)(c:Int)(_:PUnit):AA (List α):=br (decide (e>w64 (Dy (Go.IntKind.u64.wrap (w64 (a+c))) 1))) (jn (Fh cmp rE g a e c) ((w64 (w64 (w64 (Dy (Go.IntKind.u64.wrap (w64 (a+c))) 1)+e)-c),w64 (Dy (Go.IntKind.u64.wrap (w64 (a+c))) 1)))) (jn (Fh cmp rE g a e c) (a,e))
def KJ{α:Type}(cmp:α->α->AA Int)(rE:List α->Int->Int->Int->AA (List α))(c:List α)(e:Int)(a:Int)(g:Int)(_:PUnit):AA (List α):=br (w64 (g-a)==1) (A3 (KO cmp c a) big (e,a)) (jn (KL cmp rE c e a g) ())
def FI{α:Type}(cmp:α->α->AA Int)(rE:List α->Int->Int->Int->AA (List α))(e:List α)(a:Int)(c:Int)(g:Int):AA (List α):=br (w64 (c-a)==1) (A3 (KM cmp e a) big (c,g)) (jn (KJ cmp rE e a c g) ())
def HA{α:Type}(cmp:α->α->AA Int)(mrg:List α->Int->Int->Int->AA (List α))(e:((List α)×Int)->AA (List α))(a:Int)(c:List α):AA (List α):=e ((c,w64 (a*2)))
def Lx{α:Type}(cmp:α->α->AA Int)(mrg:List α->Int->Int->Int->AA (List α))(j:Int)(h:((List α)×Int)->AA (List α))(a:Int)(q:((List α)×Int)):AA (List α):=match q with |(e,c)=>br (decide (w64 (c+a)<j)) (bd (mrg e c (w64 (c+a)) j) fun g=>jn (HA cmp mrg h a) g) (jn (HA cmp mrg h a) e)
def Ly{α:Type}(cmp:α->α->AA Int)(mrg:List α->Int->Int->Int->AA (List α))(q:Int)(y:((List α)×Int)->AA (List α))(c:Int)(h:((List α)×Int×Int)->AA (List α))(B:((List α)×Int×Int)):AA (List α):=match B with |(g,e,a)=>br (decide (a<=q)) (bd (mrg g e (w64 (e+c)) a) fun j=>h ((j,a,w64 (a+w64 (2*c))))) (jn (Lx cmp mrg q y c) (g,e))
def FX{α:Type}(cmp:α->α->AA Int)(mrg:List α->Int->Int->Int->AA (List α))(e:Int)(g:((List α)×Int)->AA (List α))(h:((List α)×Int)):AA (List α):=match h with |(c,a)=>br (decide (a<e)) (A3 (Ly cmp mrg e g a) big ((c,0,w64 (2*a)))) (some c)
def G9{α:Type}(cmp:α->α->AA Int)(mrg:List α->Int->Int->Int->AA (List α))(a:Int)(h:((List α)×Int)):AA (List α):=match h with |(c,e)=>bd (DE cmp c e a) fun g=>A3 (FX cmp mrg a) big (g,20)
def FW{α:Type}(cmp:α->α->AA Int)(mrg:List α->Int->Int->Int->AA (List α))(c:Int)(h:((List α)×Int×Int)->AA (List α))(q:((List α)×Int×Int)):AA (List α):=match q with |(e,g,a)=>br (decide (a<=c)) (bd (DE cmp e g a) fun j=>h ((j,a,w64 (a+20)))) (jn (G9 cmp mrg c) (e,g))
def Fs{α:Type}(cmp:α->α->AA Int)(mrg:List α->Int->Int->Int->AA (List α))(a:List α)(c:Int):AA (List α):=A3 (FW cmp mrg c) big (a,0,20)
def AbL:YF:=⟨[Io],[.m (.l (.st 4)),.v .i,.v .i,.f Io.x []],[0],.ret [],[],dY ["95rodSQ2XHOoFy54HIPPRdiNgerYcBfHIZw67rT0wTiqrHz1z4wyk00yJAwPGUPjl2h4jgmgEtFfi5ny","n2SMZnu1JS8AghR1FeDXZMZ8Yl3kTKbYX5RRsg1YBkzKTLZCMRmh3ZkytVIXsa0owlzu3Gl"] [] [.Dm 32 (.tmp 22) [.v,.v] [.tmp 26,.tmp 31]]⟩
def AHO(a:List Ad)(c e:Int):AA (List Ad):=DE Sp a c e
def ADu:GF:=AbL.EE (GA AHO)
def AbM:YF:=⟨[Io],[.m (.l (.st 4)),.v .i,.v .i,.v .i,.f Io.x []],[0],.ret [],[],dY ["1SJvyBMEQ1pBG9IK0StDDJZatFNF5f9HmDvxaa7NRM3LFyakznQ28pFccW2vQf66A19kcJa90tdHyWdY","x"] []⟩
def AaM(a:List Ad)(c e g:Int):AA (List Ad):=D5 Sp a c e g
def rX:GF:=AbM.EE (UN AaM)
def AbN:YF:=⟨[Io],[.m (.l (.st 4)),.v .i,.v .i,.v .i,.f Io.x []],[0],.ret [],[],dY ["GLZ4HuIeqQos6IEiFbp6tSnuRyo8RxDIUILHgX27yLKBglqoXdsml0GxgWOpYPJJ8K4CMtcEFR7tuoxw","EZ8Mbnz7PSrev9znLBr6mlKuPC24wBb"] [] [.call 31 rX [0] rfl [.tmp 24,.tmp 27,.tmp 28,.tmp 29,.tmp 30],.call 46 rX [0] rfl [.tmp 35,.tmp 38,.tmp 43,.tmp 44,.tmp 45],.call 57 rX [0] rfl [.tmp 50,.tmp 53,.tmp 54,.tmp 55,.tmp 56]]⟩
def AaN(a:List Ad)(c e g:Int):AA (List Ad):=HG Sp a c e g
def rY:GF:=AbN.EE (UN AaN)
abbrev lH:=vT [.m (.l (.st 4)),.v .i,.v .i,.v .i,.f Io.x []] (.ret [])
def AKy(rE:lH)(a:List Ad)(c e g:Int):AA (List Ad):=rE.d (a,c,e,g,(),())
def AbO(rE:lH):YF:=⟨[Io],[.m (.l (.st 4)),.v .i,.v .i,.v .i,.f Io.x []],[0],.ret [],[],dY ["JoxqxqF9naFS48IYuxFxD40qYaZ7NU1GKQmoi7ko0TUKKuLUktPd9GcWRI8xWyuqPuTu91PhGQNjxXtu","spKWW4Jc0F8xW16MhEaY8xx3MdXAkNgdUJf1THH67h1qdX2X1BQYr6bGgh3q2yeLs0Ltbe33gX72rhoY","7c3cRmrk3nCu6AwtzoDPtmLLgaqs66D4MbcW0WUFtLyYCGwoi5ZdW9MGKivXLMffbYz4seuOL5O3O8EN","ZRpgNUHHkSGz0sfsFoiWXtZx9J4RrfRPIH1ChVjxeUBXLDHx44laYN0OydNYmpEGMwbv8T1iH41kq5Pp","TeufksUwRlOFQV3x5FXvH1qwYKJSGFWvyn5B81XrwaXtZ9LRb8bFnbuIbRdjAfk9LZBfa0AZlWV8n1I6","uy5mPUuiKutZ7IRKp3QeyRw9rPdl6g1XAGrECWmdSvbAxJ0JtKOOKBtc3Syds1IiNREAriHMQVnzH1SH","1dZlulPP44Zx7Y64uhwbSqbuW63KfEr5F39YgTw9Mz7pLMerGx764ilYHIRtaWGE93Yo0HFVEIjbhQYK","I4ir2XcVldRIXUM1uN2GLuuZI6QhyeYkIu9uVu58kX6lJ2Y0z8q98kZPwz9kGr04fN484KgiJIzYgYQo","vO0RwuXedycgABBbdMgxPDxSrVLxKGMkeEHrAG28Mjui0isGbvrU"] [] [.Dm 49 (.tmp 40) [.v,.v] [.tmp 44,.tmp 48],.Dm 101 (.tmp 92) [.v,.v] [.tmp 96,.tmp 100],.Dm 169 (.tmp 158) [.v,.v] [.tmp 164,.tmp 168],.call 191 rY [0] rfl [.tmp 186,.tmp 187,.tmp 188,.tmp 189,.tmp 190],.call 205 rE.gf [0] rfl [.tmp 200,.tmp 201,.tmp 202,.tmp 203,.tmp 204],.call 219 rE.gf [0] rfl [.tmp 214,.tmp 215,.tmp 216,.tmp 217,.tmp 218]]⟩
def AY3(rE:lH)(a:List Ad)(c e g:Int):AA (List Ad):=FI Sp (AKy rE) a c e g
def APL(rE:lH):GF:=(AbO rE).gf rfl rfl (fun a=>AY3 rE a.1 a.2.1 a.2.2.1 a.2.2.2.1) (fun a=>by kernel_rfl)
def Zl:Nat->lH|0=>.nil _ _|k+1=>.of (APL (Zl k))
def AOS(a:List Ad)(c e g:Int):AA (List Ad):=(Zl 7).d (a,c,e,g,(),())
def rZ:GF:=(Zl 7).gf
def AbP:YF:=⟨[Io],[.m (.l (.st 4)),.v .i,.f Io.x []],[0],.ret [],[],dY ["MiSGgslzaac3oSuarb35uU7WYU06YONS67KrjY9frGg8wognix1mIDqJ1xFUN7oRVmocj76Eylw7oupN","TSYLj348tUa7rfqZJVD6EiVP3DdIvvYR8dU5jWjJOOCMFExYaaG9VtV6hKP8XnnlhxHtarV5XaFqoiMB","SW3t3eOomegsav0L4"] [] [.call 18 ADu [0] rfl [.tmp 14,.tmp 15,.tmp 16,.tmp 17],.call 27 ADu [0] rfl [.tmp 23,.tmp 24,.tmp 25,.tmp 26],.call 43 rZ [0] rfl [.tmp 36,.tmp 37,.tmp 40,.tmp 41,.tmp 42],.call 60 rZ [0] rfl [.tmp 55,.tmp 56,.tmp 57,.tmp 58,.tmp 59]]⟩
def AHP(a:List Ad)(c:Int):AA (List Ad):=Fs Sp AOS a c
def APl:GF:=AbP.EE (Ah AHP)
def AbQ:YF:=⟨[Io],[.m (.l (.st 4)),.f Io.x []],[0],.ret [],[],dY ["mi7Z7PGdKRz"] [] [.call 8 APl [0] rfl [.tmp 4,.tmp 6,.tmp 7]]⟩
def mr(a:List Ad):AA (List Ad):=bd (AHP a (↑a.length:Int)) fun c=>some c
def APm:GF:=AbQ.EE (Be mr)
def AbR:YF:=⟨[Io],[.v (.st 1),.v (.l (.st 2)),.v .i,.v .i],[],.ret [(.l (.st 4))],[.tmp 8],dY ["1CZPGGCdK3H7rOTvppHydGY4GgUO0dayYqIiad3LmtFeDcEk8bM1M1Z2KtUdTdCGLYRNIw9HwYGCwyjl","7lbgwjtWYJUHqeYDGaAkSEIXGftrxZ97mGjjX7n7ia9tFeWhxt6Jeb7VkI6OdGCHg"] [rW] [.call 40 APm [0] rfl [.tmp 39,.fn 0]]⟩
def U0(a:List Ad×Int->AA (List Ad))(c:Int)(e:List Ad):AA (List Ad):=a (e,w64 (c+1))
def Uz(c:List Ad×Int->AA (List Ad))(a:List Ad)(e:Int)(g:Ad×Bool)(h:Bool):AA (List Ad):=br h (gd (e9 a+[g.fst].length<=lim) (jn (U0 c e) (a++[g.fst]))) (jn (U0 c e) a)
def Qp(a:List Ad):AA (List Ad):=bd (mr a) fun c=>some c
def Qq(q:Ae)(h:List AM)(y B:Int)(g:List Ad×Int->AA (List Ad))(E:List Ad×Int):AA (List Ad):=let (c,a):=E;br (decide (a<h.length)) (bd (at? h a) fun j=>bd (mq q j B) fun e=>br e.snd (jn (Uz g c a e) (j.AY==y)) (jn (Uz g c a e) false)) (jn Qp c)
def Y8(a:Ae)(c:List AM)(e g:Int):AA (List Ad):=A3 (Qq a c e g) big ([],0)
def ra:GF:=AbR.EE (UN Y8)
def xY(_:PUnit):AA Bool:=some true
def cO(g j:List Ad)(h:Int->AA Bool)(a:Int):AA Bool:=br (decide (a<g.length)) (bd (at? g a) fun c=>bd (at? j a) fun e=>br (!(c.Level==e.Level&&(c.Ay==e.Ay&&(c.Id==e.Id&&(c.BB==e.BB&&true))))) (some false) (h (w64 (a+1)))) (jn xY ())
def AHQ(a c:List Ad):AA Bool:=br ((↑a.length:Int) != c.length) (some false) (A3 (cO a c) big 0)
def APn:=gZ AEt CI Bw ["v2STneHowhu0bH2W6uOpJi7hXuhONST6qs5fF10gWbKI0dgwcme6DCvGrkFGPPdmkPev1LW5YT"] [] (Ah AHQ)
def cC(g:Int×Int):AA Int:=let (a,c):=g;bd (α:=UInt8) (at? [0,1,2,2,3,3,3,3,4,4,4,4,4,4,4,4,5,5,5,5,5,5,5,5,5,5,5,5,5,5,5,5,6,6,6,6,6,6,6,6,6,6,6,6,6,6,6,6,6,6,6,6,6,6,6,6,6,6,6,6,6,6,6,6,7,7,7,7,7,7,7,7,7,7,7,7,7,7,7,7,7,7,7,7,7,7,7,7,7,7,7,7,7,7,7,7,7,7,7,7,7,7,7,7,7,7,7,7,7,7,7,7,7,7,7,7,7,7,7,7,7,7,7,7,7,7,7,7,8,8,8,8,8,8,8,8,8,8,8,8,8,8,8,8,8,8,8,8,8,8,8,8,8,8,8,8,8,8,8,8,8,8,8,8,8,8,8,8,8,8,8,8,8,8,8,8,8,8,8,8,8,8,8,8,8,8,8,8,8,8,8,8,8,8,8,8,8,8,8,8,8,8,8,8,8,8,8,8,8,8,8,8,8,8,8,8,8,8,8,8,8,8,8,8,8,8,8,8,8,8,8,8,8,8,8,8,8,8,8,8,8,8,8,8,8,8,8,8,8,8,8,8,8,8,8,8] (↑(toB a).toNat:Int)) fun e=>some (w64 (c+w64 (↑e.toNat:Int)))
def cB(e:Int×Int):AA Int:=let (a,c):=e;br (decide (a>=256)) (jn cC (Dy a 8,w64 (c+8))) (jn cC (a,c))
def cA(e:Int×Int):AA Int:=let (a,c):=e;br (decide (a>=65536)) (jn cB (Dy a 16,w64 (c+16))) (jn cB (a,c))
def AOM(a:Int):AA Int:=br (decide (a>=4294967296)) (jn cA (Dy a 32,32)) (jn cA (a,0))
def APb:=gZ [.v (.ki .u64)] CZ Ca ["57ZvBnEPZ0qLrEmwfC4qji8yI0X1Oib6uj00XbZWA4aY1oB1huFdzHuX31AxnZs1kCoTdIGDg8pUjac4","TAXCOMkL09pFWAWH0FfwmINs6BxJ"] [] (Be AOM) [.ix 22 (.k (.str [0,1,2,2,3,3,3,3,4,4,4,4,4,4,4,4,5,5,5,5,5,5,5,5,5,5,5,5,5,5,5,5,6,6,6,6,6,6,6,6,6,6,6,6,6,6,6,6,6,6,6,6,6,6,6,6,6,6,6,6,6,6,6,6,7,7,7,7,7,7,7,7,7,7,7,7,7,7,7,7,7,7,7,7,7,7,7,7,7,7,7,7,7,7,7,7,7,7,7,7,7,7,7,7,7,7,7,7,7,7,7,7,7,7,7,7,7,7,7,7,7,7,7,7,7,7,7,7,8,8,8,8,8,8,8,8,8,8,8,8,8,8,8,8,8,8,8,8,8,8,8,8,8,8,8,8,8,8,8,8,8,8,8,8,8,8,8,8,8,8,8,8,8,8,8,8,8,8,8,8,8,8,8,8,8,8,8,8,8,8,8,8,8,8,8,8,8,8,8,8,8,8,8,8,8,8,8,8,8,8,8,8,8,8,8,8,8,8,8,8,8,8,8,8,8,8,8,8,8,8,8,8,8,8,8,8,8,8,8,8,8,8,8,8,8,8,8,8,8,8,8,8,8,8,8,8])) (.tmp 21)]
def AHI(a:Int):AA Int:=bd (AOM a) fun c=>some c
def APc:=gZ [.v (.ki .u64)] CZ Ca ["1reXExenGTAOhy3Bma"] [APb] (Be AHI)
def AbB:YF:=⟨[GP],[.m (.l (.st 5)),.v .i,.v .i,.f GP.x []],[0],.ret [],[],dY ["2TAiu3AkCsoMpJDTQj947P6R7oGBh87n7ZZTMpCgiIX7qrk3vqsJxTOUVp2aXCkW0zhzXquuInl09nNi","fEuP1c5hVUBt4n9B2Be9zucSXjdH1rvHj9tkKVIvPKqenaxELp747ceSkO2XDfJWFuV9f"] [] [.Dm 32 (.tmp 22) [.v,.v] [.tmp 26,.tmp 31]]⟩
def xN(a:List A7)(c e:Int):AA (List A7):=DE Qn a c e
def rP:GF:=AbB.EE (GA xN)
def AbC:YF:=⟨[GP],[.m (.l (.st 5)),.v .i,.v .i,.v .i,.f GP.x []],[0],.ret [],[],dY ["NqsPgRygsBVMCJY9VGWOrRlxgUzUFr2wAWDy30mHttST7NHjM129XpwFopBt4iAcCgJTAAfeOyrGtRf4","yukky0IT6JskioIuD6ZJqQe7w9ZFvmfWepy3HqG5rz8ATuZ91NsntxnEbsLLxH8STwumKMaemJDnqrFN","zj8BHJFvs72KhStv653KnREeitb80iv3RKD470krGmCz4pwi99vN5VAFPhSyyjRlPcH5si5tvmUZNyNb","Lwv8VEl0DSTmClizzVWnNgPQbvjqTFrw1PvDbjuexYabGp974fZG5874rwy5y6yfmu1ajcsyoHKPpRQP","A6FYRqadshNUR2CG7u8JZoL1diomLR8RDcfGSK5ckkNidFtDA4KXu4V7Uo2U12WHc7V9Jmq2j0u9nTjn","DifnI7KbFFHUPt4QmzmvSjwtI4I"] [] [.call 30 rP [0] rfl [.tmp 26,.tmp 27,.tmp 28,.tmp 29],.bad (some 37),.bad (some 44),.bad (some 52),.bad (some 61),.bad (some 80),.bad (some 94),.bad (some 103),.bad (some 111),.bad (some 134),.bad (some 146)]⟩
def xO(e:List A7)(a c g:Int)(j:PUnit->AA (List A7))(_:PUnit):AA (List A7):=br (decide (w64 (c-a)<=12)) (bd (xN e a c) fun h=>some h) (br (g==0) none none)
def AON(a:List A7)(c e g:Int):AA (List A7):=A3 (xO a c e g) big ()
def APd:GF:=AbC.EE (UN AON)
def AbD:YF:=⟨[GP],[.m (.l (.st 5)),.f GP.x []],[0],.ret [],[],dY ["rBYqhjg442Kuh4ZLUB8WB"] [APc] [.call 13 APd [0] rfl [.tmp 7,.k (.int .i64 0),.tmp 8,.tmp 11,.tmp 12]]⟩
def AHJ(a:List A7):AA (List A7):=bd (AHI (Go.IntKind.u64.wrap (↑a.length:Int))) fun c=>bd (AON a 0 (↑a.length:Int) c) fun e=>some e
def APe:GF:=AbD.EE (Be AHJ)
def AbE:YF:=⟨[GP],[.v (.st 6)],[],.ret [(.l (.st 5))],[.tmp 2],dY ["IhMiru0LRrOinBwTJjHoVxq1kSrORwGDYixCW1ETyaCylFm1CDQpUVgDp5ZTzOyuHk1fQHtC34Jeyd2Z","Zz"] [iw] [.call 21 APe [0] rfl [.tmp 20,.fn 0]]⟩
def xQ(a:List A7):AA (List A7):=bd (AHJ a) fun c=>some c
def xR(e:Av)(h:List A7×Int->AA (List A7))(j:List A7×Int):AA (List A7):=let (a,c):=j;br (decide (c<e.An.length)) (bd (at? e.An c) fun g=>gd (e9 a+e9 g<=lim) (h (a++g,w64 (c+1)))) (jn xQ a)
def xP(a:Av):AA (List A7):=bd (Sq a) fun c=>br (!c) (some []) (A3 (xR a) big ([],0))
def ADp:GF:=AbE.EE (Be xP)
def AbF:YF:=⟨[GP],[.m (.l (.st 5)),.v .i,.v .i,.v .i,.f GP.x []],[0],.ret [],[],dY ["Ajxcw06jhPnKCqsibGkAtivPbXTJfl3SeEimW3yy99odNdU0Vc2jYo9Ca0fU3zJdqOpZHpld5K9FGax"] []⟩
def AaK(a:List A7)(c e g:Int):AA (List A7):=D5 Qn a c e g
def rQ:GF:=AbF.EE (UN AaK)
def AbG:YF:=⟨[GP],[.m (.l (.st 5)),.v .i,.v .i,.v .i,.f GP.x []],[0],.ret [],[],dY ["9lCrvZnJWKcpWCAZtwpuVa1sKY89uerfedOEmq0NCqRYONxaaECrCBJ5v1vM4X2wh0xtYAPGC2Ea4qik","wOoyv9ccvRGp6vEPJ46Owxd4xBbShv0"] [] [.call 31 rQ [0] rfl [.tmp 24,.tmp 27,.tmp 28,.tmp 29,.tmp 30],.call 46 rQ [0] rfl [.tmp 35,.tmp 38,.tmp 43,.tmp 44,.tmp 45],.call 57 rQ [0] rfl [.tmp 50,.tmp 53,.tmp 54,.tmp 55,.tmp 56]]⟩
def AaL(a:List A7)(c e g:Int):AA (List A7):=HG Qn a c e g
def rR:GF:=AbG.EE (UN AaL)
abbrev lG:=vT [.m (.l (.st 5)),.v .i,.v .i,.v .i,.f GP.x []] (.ret [])
def AKx(rE:lG)(a:List A7)(c e g:Int):AA (List A7):=rE.d (a,c,e,g,(),())
def AbH(rE:lG):YF:=⟨[GP],[.m (.l (.st 5)),.v .i,.v .i,.v .i,.f GP.x []],[0],.ret [],[],dY ["5avJcsSAcXSY9EgfHsSHIlFIwvnzlV0TKtu1ivhis3wguWBzq0VvxNBeYKA82SXGhqlTZlsFOR28u4Fu","YqLtw9OCoMY0q2mpmLW5aCfsa608uVtf2AUF91uwNZyasVVGB8GYTwpEGqJH24FtSgcNSaRDuaNgaVeh","uVbhOU04E812zHe0UqeaGPKv7vLrlLzilgDcc8yEGE3jzNnJuImn9pMZoyVazAwNVzEAadGpnxFUWO03","iXxmbRwJzI5yVWMFiK2ZaMbRh66lcWCLdWBMiKe0swo8aNxVXjrV8FYC8GG2SxQKBxXUQ0AFNGKSRIPy","6lPDFUPyq95KVroRPUjh0UbmVu1JZCwdHx7ckzL0vnVm7xvXigeu7TbhmfjtCtfuqvZS1bkP0X4z8B4M","ncQAsEXTVJCGiG9Bl3kZr1xWBfRNKp704KB3dpdzdMmgyMoRRdRwXQBRdIWmb6efE5yitSSseGDqJ7tI","EXWTlEgn4r5vLvl7HGY3dAhIP74a879AWOwfO5H9YNbtywf6yH2082fiQqRmvq6Ndhrhi0AZf7ip9ilz","5oShIaZpDzxSieb6cyoWVeOOUWCAqCjKCsyGOV0T0OLfpv7MxLgPogchxmfPivHiYoRbLsyyWSygBQyw","UwkQqQwjce4qtwroSYDtRTxKwDb5M4jGvlvVnMiFdSvY179"] [] [.Dm 49 (.tmp 40) [.v,.v] [.tmp 44,.tmp 48],.Dm 101 (.tmp 92) [.v,.v] [.tmp 96,.tmp 100],.Dm 169 (.tmp 158) [.v,.v] [.tmp 164,.tmp 168],.call 191 rR [0] rfl [.tmp 186,.tmp 187,.tmp 188,.tmp 189,.tmp 190],.call 205 rE.gf [0] rfl [.tmp 200,.tmp 201,.tmp 202,.tmp 203,.tmp 204],.call 219 rE.gf [0] rfl [.tmp 214,.tmp 215,.tmp 216,.tmp 217,.tmp 218]]⟩
def AY2(rE:lG)(a:List A7)(c e g:Int):AA (List A7):=FI Qn (AKx rE) a c e g
def APK(rE:lG):GF:=(AbH rE).gf rfl rfl (fun a=>AY2 rE a.1 a.2.1 a.2.2.1 a.2.2.2.1) (fun a=>by kernel_rfl)
def Zk:Nat->lG|0=>.nil _ _|k+1=>.of (APK (Zk k))
def AOO(a:List A7)(c e g:Int):AA (List A7):=(Zk 7).d (a,c,e,g,(),())
def rS:GF:=(Zk 7).gf
def AbI:YF:=⟨[GP],[.m (.l (.st 5)),.v .i,.f GP.x []],[0],.ret [],[],dY ["4pqYXIiDOof85GlScITLlOMFbU4O01EXssd5HIWvRrvrfWsdUYuwkyD40mpcdm14aKOk6BNhAy8WKhsm","JvJypl5vG216Jjk25TWeFU30twSW3ZFpSQkC4gKs57Xqlf3tsIa92bGKRUNd4DnevalCN9ezxz1ooYrY","GZ6lrm5g1dHZGTpJn"] [] [.call 18 rP [0] rfl [.tmp 14,.tmp 15,.tmp 16,.tmp 17],.call 27 rP [0] rfl [.tmp 23,.tmp 24,.tmp 25,.tmp 26],.call 43 rS [0] rfl [.tmp 36,.tmp 37,.tmp 40,.tmp 41,.tmp 42],.call 60 rS [0] rfl [.tmp 55,.tmp 56,.tmp 57,.tmp 58,.tmp 59]]⟩
def AHK(a:List A7)(c:Int):AA (List A7):=Fs Qn AOO a c
def APf:GF:=AbI.EE (Ah AHK)
def AbS:YF:=⟨[GP],[.m (.l (.st 5)),.f GP.x []],[0],.ret [],[],dY ["mi7Z7PGdKRz"] [] [.call 8 APf [0] rfl [.tmp 4,.tmp 6,.tmp 7]]⟩
def mw(a:List A7):AA (List A7):=bd (AHK a (↑a.length:Int)) fun c=>some c
def APu:GF:=AbS.EE (Be mw)
def AbT:YF:=⟨[GP],[.v (.l (.st 2)),.v .i],[],.ret [(.l (.st 5))],[.tmp 4],dY ["1JpsVy8h1ShKdRoWW6yNhgrgydeswLI9ldjbMaAA319Co0djgeaOzaVBhYy71rBOwZWV86WokNwFPb84","ESQP4ZDH73T0mJ7CNRWKWCpyhf7tQyc"] [] [.call 33 APu [0] rfl [.tmp 32,.fn 0]]⟩
def U4(a:List A7×Int->AA (List A7))(c:Int)(e:List A7):AA (List A7):=a (e,w64 (c+1))
def U3(e:List A7×Int->AA (List A7))(c:List A7)(g:Int)(a:AM)(h:Bool):AA (List A7):=br h (gd (e9 c+[A7.mk a.Cq a.Id].length<=lim) (jn (U4 e g) (c++[A7.mk a.Cq a.Id]))) (jn (U4 e g) c)
def Qr(a:List A7):AA (List A7):=bd (mw a) fun c=>some c
def Qs(h:List AM)(j:Int)(g:List A7×Int->AA (List A7))(q:List A7×Int):AA (List A7):=let (e,a):=q;br (decide (a<h.length)) (bd (at? h a) fun c=>br (c.State==2) (jn (U3 g e a c) (c.AY==j)) (jn (U3 g e a c) false)) (jn Qr e)
def cW(a:List AM)(c:Int):AA (List A7):=A3 (Qs a c) big ([],0)
def ADz:GF:=AbT.EE (Ah cW)
def xi(_:PUnit):AA Bool:=some true
def cX(c j:List A7)(h:Int->AA Bool)(a:Int):AA Bool:=br (decide (a<c.length)) (bd (at? c a) fun e=>bd (at? j a) fun g=>br (!(e.At==g.At&&(e.Id==g.Id&&true))) (some false) (h (w64 (a+1)))) (jn xi ())
def AHW(a c:List A7):AA Bool:=br ((↑a.length:Int) != c.length) (some false) (A3 (cX a c) big 0)
def APv:=gZ AEu CI Bw ["3WCeWfezDqr5Dpvv6F7fleZ72pZhN0rVEiGsSYQRM5LKv1MtNDlE5hHhZefluTigxcKcwzKpJH"] [] (Ah AHW)
def cZ(a:Int×Int->AA Int)(c e:Int):AA Int:=a (e,w64 (c+1))
def U5(a:Int×Int->AA Int)(c e:Int)(h:AM)(g:Bool):AA Int:=br g (jn (cZ a e) (w64 (c+h.BB))) (jn (cZ a e) c)
def xj(a:Int):AA Int:=some a
def cg(h:List AM)(j:Int)(g:Int×Int->AA Int)(y:Int×Int):AA Int:=let (e,c):=y;br (decide (c<h.length)) (bd (at? h c) fun a=>br (a.State==2) (br (a.AY==j) (bd (C0 a.BB 1 6) fun q=>jn (U5 g e c a) q) (jn (U5 g e c a) false)) (jn (U5 g e c a) false)) (jn xj e)
def cY(a:List AM)(c:Int):AA Int:=A3 (cg a c) big (0,0)
def AD0:=gZ QO CZ Bw ["4L10OTrD1VyZmdtRuMTUnFSlQkRa9qCqdAuoJziesB0X16YJ951hAiJ5u4oInXsnZETiLuIc29ScUIoK","imu2VeZ6y6aY5bonfB60gx1jD"] [Eb] (Ah cY)
def cj(a:Int×Int->AA Int)(c e:Int):AA Int:=a (e,w64 (c+1))
def ch(a:Int×Int->AA Int)(c e:Int)(h:AM)(g:Bool):AA Int:=br g (jn (cj a e) (w64 (c+h.BB))) (jn (cj a e) c)
def xk(a:Int):AA Int:=some a
def ck(h:List AM)(j:Int)(g:Int×Int->AA Int)(y:Int×Int):AA Int:=let (e,a):=y;br (decide (a<h.length)) (bd (at? h a) fun c=>br (c.Bk==j) (bd (C0 c.BB 1 6) fun q=>jn (ch g e a c) q) (jn (ch g e a c) false)) (jn xk e)
def Y9(a:List AM)(c:Int):AA Int:=A3 (ck a c) big (0,0)
def AD1:=gZ QO CZ Bw ["1YRH6ptgrNQGHq86pDJuYnZTAOwJlRl0heUK4rPm5mrB6XXju0byzIkUwTayZ6SD8S5ZbmSOkacF1TSS","gWuoOsp6q"] [Eb] (Ah Y9)
def OR(a:Bool):AA Bool:=some a
def AHX(g:Ae)(a:AX)(c:List AM)(e h:Int):AA Bool:=bd (AHM a) fun j=>br j (bd (Y8 g c e h) fun q=>bd (AHQ a.Row q) fun y=>br y (bd (xP a.Bq) fun B=>bd (cW c e) fun E=>bd (AHW B E) fun G=>br G (bd (cY c e) fun H=>br (a.AZ.EZ==H) (bd (Y9 c e) fun I=>jn OR (a.AZ.Fa==I)) (jn OR false)) (jn OR false)) (jn OR false)) (jn OR false)
def APw:=gZ ASn CI [.tmp 10] ["4oVaoqYsZ9lCUx8lWpoZ9w5z5NAtoIfy8NqlqKJMh1RsnxRnmAwsAyxbXKmA5pfzJ6KqnWlxT1O9DjGe","We5n3Fx5rCwmpG49znwQeqaH4AMotusWD4t87jj6sAehTpmbnIOZ9M2FiLlQl4YCIwpgZZ"] [APi,ra,APn,ADp,ADz,APv,AD0,AD1] (AVn AHX)
def xl(_:PUnit):AA Int:=some (-1)
def cm(c:List Int)(g:Int)(e:Int->AA Int)(a:Int):AA Int:=br (decide (a<c.length)) (bd (at? c a) fun h=>br (g==h) (some a) (e (w64 (a+1)))) (jn xl ())
def AOT(a:List Int)(c:Int):AA Int:=A3 (cm a c) big 0
def APx:=gZ ZR CZ Bw ["30f7CjgWCFsEmPf3ZI5WdLJa4deTT3eXDRmvV6b0CyJMTyzVKTPvUQR"] [] (Ah AOT)
def my(a:List Int)(c:Int):AA Bool:=bd (AOT a c) fun e=>some (decide (e>=0))
def rb:=gZ ZR CI Bw ["6FMaaaJ08CswtM"] [APx] (Ah my)
def LC(c:Int->AA Bool)(e:Int)(a:Bool):AA Bool:=br a (some false) (c (w64 (e+1)))
def xm(a:Int->AA Bool)(c:Int)(_:PUnit):AA Bool:=a (w64 (c+1))
def cr(j:AF)(q:Int->AA Bool)(h:Int)(e:AM)(g:Int->AA Bool)(c:Int):AA Bool:=br (decide (c<(e8 h.toNat j.AG).length)) (bd (at? (e8 h.toNat j.AG) c) fun a=>br (e.Ay==a.Ay) (jn (LC g c) true) (br (decide (e.Ay<a.Ay)) (br (decide (e.Since>a.Since)) (jn (LC g c) true) (br (decide (a.Ay<e.Ay)) (jn (LC g c) (decide (a.Since>e.Since))) (jn (LC g c) false))) (br (decide (a.Ay<e.Ay)) (jn (LC g c) (decide (a.Since>e.Since))) (jn (LC g c) false)))) (jn (xm q h) ())
def OS(c:AF)(e:Int->AA Bool)(a:Int)(h:AM)(g:Bool):AA Bool:=br g (some false) (gd (0<=a/\a<=c.AG.length) (A3 (cr c e a h) big 0))
def Qt(a:Int->AA Bool)(c:Int)(e:Bool):AA Bool:=br e (some false) (a (w64 (c+1)))
def XM(a:Int->AA Bool)(c:Int)(e:Bool):AA Bool:=br e (some false) (a (w64 (c+1)))
def mz(_:PUnit):AA Bool:=some true
def XO(e:AF)(c:Int->AA Bool)(a:Int):AA Bool:=br (decide (a<e.BC.length)) (bd (at? e.BC a) fun g=>bd (C0 g (-1) (w64 ((↑e.AQ.AZ.length:Int)-1))) fun h=>br (!h) (some false) (c (w64 (a+1)))) (jn mz ())
def SF(a:AF)(_:PUnit):AA Bool:=A3 (XO a) big 0
def XN(c:AF)(e:Int->AA Bool)(a:Int):AA Bool:=br (decide (a<c.BE.length)) (bd (at? c.BE a) fun g=>bd (Lq g (↑c.AQ.AZ.length:Int)) fun h=>br (!h) (jn (XM e a) true) (gd (0<=a/\a<=c.BE.length) (bd (my (e8 a.toNat c.BE) g) fun j=>jn (XM e a) j))) (jn (SF c) ())
def SE(a:AF)(_:PUnit):AA Bool:=A3 (XN a) big 0
def cw(c:AF)(e:Int->AA Bool)(a:Int):AA Bool:=br (decide (a<c.AH.length)) (bd (at? c.AH a) fun g=>bd (at? c.AQ.AZ a) fun h=>br (g.AZ.Total != h) (jn (Qt e a) true) (bd (mj c.AG a) fun j=>br (decide (j>c.AQ.Room)) (jn (Qt e a) true) (bd (AHX c.AQ g c.AG a c.Now) fun q=>jn (Qt e a) (!q)))) (jn (SE c) ())
def U6(a:AF)(_:PUnit):AA Bool:=A3 (cw a) big 0
def cq(a:AF)(g:Int->AA Bool)(c:Int):AA Bool:=br (decide (c<a.AG.length)) (bd (at? a.AG c) fun e=>bd (cD a.AQ e a.Now) fun j=>br (!j) (jn (OS a g c e) true) (br (decide (e.Ay>=a.Ay)) (jn (OS a g c e) true) (br (decide (c>0)) (bd (at? a.AG (w64 (c-1))) fun h=>jn (OS a g c e) (decide (h.Id>=e.Id))) (jn (OS a g c e) false)))) (jn (U6 a) ())
def LB(a:AF)(c:Bool):AA Bool:=br c (some false) (br (decide ((↑a.AG.length:Int)>40)) (some false) (A3 (cq a) big 0))
def Sr(a:AF):AA Bool:=bd (Y6 a.AQ) fun g=>br (!g) (jn (LB a) true) (bd (C0 a.Now 0 1000000) fun c=>br (!c) (jn (LB a) true) (bd (C0 a.Ay 1 1000001) fun e=>br (!e) (jn (LB a) true) (br ((↑a.AH.length:Int) != a.AQ.AZ.length) (jn (LB a) true) (jn (LB a) ((↑a.BC.length:Int) != a.AQ.C3)))))
def Tj:=gZ Ns CI Ca ["3e5jdVM8P3MML8aigMZvSCPNvOVruZhr0iVe5aMc9Vtp8zRGz4YmU4VgwtvXNwAdQiPjO5zxMQlbY4R0","sDu6KqLja1D1oYqfvtdRDGC36IkhdXpmdLGeeR7IjiBLE5bGZQmJsgELxk6kBkfsxSiz2HA9LnUzykbJ","01wH0fqz1yj5Eg9KObtIXFgpSUl5oPfcOdVnZGJfbAcDQ4fHHukeV2h3vcorx2YxolQcBhNGhXPHnynx","HeyM42oo4JHEukdDaMQqjPVYcylj0pqPwpC5Pczqp8LcRggCycf3nHXXBan3zLcQe5r8Tid05IhRuqwc","QJqtYlEt0J3BMSLTu246JbL39iO4YuXYzQcH7Kt5VYZpm1evDXsWvrUtaYJww6ryzvFPsmVBPlCqo5Nm","GxOnRwwLfmifmkZAhS8AfkAhvruxhI6OWp2YrVTi7rbrHym62gIkbBwCUlgjg3v5YYg6IeWoYUWYQBBk","fbGVfndAN1YCbSUJlmxRPsvsex6BYBitRY1X7F1ZEaHAu7BBloA0MmJ2BsNFHKPvOcgrugfOa6YAQCwE","NysSXRac0WiP1xsggs914Gu4qNIgjfiPUf0s6udkMDAEvNGbTeUOAqPVy76cVJMHXyAof88Y8rekRp9V","1SqgO7rec4DNV4p8m28mp225BX5n2yOtJ9XV7vrSL6PObfi5eEXHCe1Ma1JlQtkAgq5C0eBCFgOaljn1","3qqkmEgLPMtu1zL5eKcyFgEwYfGGbk"] [Xl,Eb,iv,rT,APw,Pj,rb] (Be Sr) [.as 10 (.tmp 182),.as 11 (.tmp 184),.as 13 (.tmp 204)]
def cy(a:Bool):AA Bool:=some a
def OT(a:B3):AA Bool:=br (decide ((↑a.Data.length:Int)<=20000)) (bd (C0 a.Safe 0 (↑a.Data.length:Int)) fun c=>jn cy c) (jn cy false)
def RI:=gZ Xs CI Ca ["Dy5djvDcurlf3LS5CyLwWQWfAo6qvTl7S8omx"] [Eb] (Be OT)
def U7(a:Bool):AA Bool:=some a
def xn(a:Br):AA Bool:=bd (OT a.Log) fun c=>br c (bd (OT a.EJ) fun e=>br e (bd (OT a.Odd) fun g=>jn U7 g) (jn U7 false)) (jn U7 false)
def AD2:=gZ Kg CI Ca ["2cgVae2BYRtd8C6GYLZOcxXNHJD2K5b4MQJ"] [RI] (Be xn)
def QN(a:Int):AA Bool:=bd (C0 a 0 9999) fun c=>some c
def APy:=gZ Xt CI Ca ["48IPrjLJ1u7jbr"] [Eb] (Be QN)
def AbU:YF:=⟨[APy],[.v (.st 0)],[],.ret [.b],[.tmp 2],dY ["1Ym7ycOBWXehGFhlh3ZHQ5yFJb6TQyVX2u6qDSaFmavkI0CG4eeNhaymxIcmTCtdDr73GanYZFfYkLwU","9NqN5HUooiFqZvQYGMbehkwPUBYp12IIje5QBvTSOI1ynmNCPTVzAM8kiA98zQj6793fIGbvXtYQSgjx","7svWlQrBwEeziFBUIfE1sTr21lyne1bOUHM52LE34eSsEOY8x8WfqfkvziKZMXf7Wn8WAVtj0UNJuVz6","pPV7ObDopyJbETZ15V9puubYa2EL0lHK2CTbHxLsxfSoMu8jAVDAT2C0E72oNVgwnR0DRpCuDqo9Vk6x","PJ3bzBIAou"] [Eb] [.as 3 (.fn 0),.Dm 11 (.tmp 8) [.v] [.tmp 10],.Dm 16 (.tmp 13) [.v] [.tmp 15],.Dm 27 (.tmp 24) [.v] [.tmp 26],.Dm 33 (.tmp 30) [.v] [.tmp 32],.Dm 43 (.tmp 40) [.v] [.tmp 42],.Dm 58 (.tmp 55) [.v] [.tmp 57],.Dm 63 (.tmp 60) [.v] [.tmp 62]]⟩
def GX(a:Bool):AA Bool:=some a
def OU(a:Bo)(e:Bool):AA Bool:=br e (bd (QN a.Id) fun g=>br g (jn GX (a.Kind==a.Kind&&(a.Id==a.Id&&(a.AY==0&&(a.Bk==0&&(a.BB==0&&(a.Cv==0&&true))))))) (jn GX false)) (br (a.Kind==3) (bd (QN a.AY) fun h=>br h (bd (QN a.BB) fun c=>br c (jn GX (a.Kind==a.Kind&&(a.Id==0&&(a.AY==a.AY&&(a.Bk==0&&(a.BB==a.BB&&(a.Cv==0&&true))))))) (jn GX false)) (jn GX false)) (br (a.Kind==6) (some (a.Kind==6&&(a.Id==0&&(a.AY==0&&(a.Bk==0&&(a.BB==0&&(a.Cv==0&&true))))))) (some false)))
def U8(a:Bo):AA Bool:=br (a.Kind==1) (bd (QN a.Id) fun c=>br c (bd (QN a.AY) fun e=>br e (bd (C0 a.Bk (-1) 9999) fun g=>br g (bd (QN a.BB) fun h=>br h (bd (QN a.Cv) fun j=>jn GX j) (jn GX false)) (jn GX false)) (jn GX false)) (jn GX false)) (br (a.Kind==2) (jn (OU a) (a.Kind==2)) (br (a.Kind==4) (jn (OU a) (a.Kind==4)) (br (a.Kind==5) (jn (OU a) (a.Kind==5)) (jn (OU a) (a.Kind==7)))))
def iy:GF:=AbU.EE (Be U8)
def xp(_:PUnit):AA Bool:=some true
def cz(c:BD)(e:Int->AA Bool)(a:Int):AA Bool:=br (decide (a<c.Laid.length)) (bd (at? c.Laid a) fun g=>bd (U8 g) fun h=>br (!h) (some false) (e (w64 (a+1)))) (jn xp ())
def OV(a:BD)(c:Bool):AA Bool:=br c (some false) (A3 (cz a) big 0)
def ZA(a:BD):AA Bool:=bd (Sr a.Az) fun c=>br (!c) (jn (OV a) true) (bd (xn a.Bl) fun e=>br (!e) (jn (OV a) true) (br (decide ((↑a.Laid.length:Int)>8)) (jn (OV a) true) (bd (C0 a.Seq (↑a.Laid.length:Int) 1000000) fun g=>jn (OV a) (!g))))
def Xm:=gZ Tt CI Ca ["1YHdncMVamUllFfWx741zPh0yBlld4PCjlCFyvb8mmDr8N3NMq5vJxSeU2gTTBwfSgUPFBeckeCiG4xP","jUcTYiPO6NJPyx6o0Epe1lYH2NzTZJvUze04qVj9VJhETjiW4"] [Tj,AD2,Eb,iy] (Be ZA)
def xq(_:PUnit):AA Bool:=some true
def xt(c g:List Int)(e:Int->AA Bool)(a:Int):AA Bool:=br (decide (a<c.length)) (bd (at? c a) fun h=>bd (at? g a) fun j=>br (h != j) (some false) (e (w64 (a+1)))) (jn xq ())
def ZB(a c:List Int):AA Bool:=br ((↑a.length:Int) != c.length) (some false) (A3 (xt a c) big 0)
def iz:=gZ AEv CI Bw ["9oXG4HMGduVAUd9o5MmAL1SaVR5teohCDgHmwrYINl9LbKS1CP5C8bfGFk"] [] (Ah ZB)
def AHY(a c:Ae):AA Bool:=bd (ZB a.AZ c.AZ) fun e=>br (!e) (some false) (br (a.Ce != c.Ce) (some false) (br (a.Room != c.Room) (some false) (br (a.BB != c.BB) (some false) (br (a.CE != c.CE) (some false) (br (a.B0 != c.B0) (some false) (br (a.Rest != c.Rest) (some false) (br (a.Cd != c.Cd) (some false) (br (a.C3 != c.C3) (some false) (some true)))))))))
def APz:=gZ [.v (.st 1),.v (.st 1)] CI Bw ["sS8cAtC1NAtA3ITqcknh9HsA3wNCJmumpV2rlRYiyBbjVnuVpFy6oDJ5pAQ3p2oafsGq28IrjVpEhzkp","Llew23ngMqOgNK4428jQx8wZYrVHmYnxx6LRrGS"] [iz] (Ah AHY)
def AHZ(a c:AM):AA Bool:=br (a.Id != c.Id) (some false) (br (a.AY != c.AY) (some false) (br (a.Bk != c.Bk) (some false) (br (a.BB != c.BB) (some false) (br (a.Cv != c.Cv) (some false) (br (a.Since != c.Since) (some false) (br (a.Ay != c.Ay) (some false) (br (a.State != c.State) (some false) (br (a.Cq != c.Cq) (some false) (br (a.DB != c.DB) (some false) (some true))))))))))
def AP0:=gZ [.v (.st 2),.v (.st 2)] CI Bw ["10qWna2AsMZ0fQO8piz4K6FBGRuAsAj55FrwSbWAgBBRpqtk9aQBWxpjpiZZfASUmL5C9tz4Amra1eoc","Lh0JcNkTY6wFQNLvcsdYKV3gfUiTvtcYPb4BkLikzm9O4nOVZnu6V"] [] (Ah AHZ)
def xu(_:PUnit):AA Bool:=some true
def xv(c g:List AM)(e:Int->AA Bool)(a:Int):AA Bool:=br (decide (a<c.length)) (bd (at? c a) fun h=>bd (at? g a) fun j=>bd (AHZ h j) fun q=>br (!q) (some false) (e (w64 (a+1)))) (jn xu ())
def AHa(a c:List AM):AA Bool:=br ((↑a.length:Int) != c.length) (some false) (A3 (xv a c) big 0)
def AP1:=gZ [.v (.l (.st 2)),.v (.l (.st 2))] CI Bw ["1be8YOwQGlw5XkBFf7bs26zgjAHiVcRF2jOJcRVa45i6c5nxnnDpYnmA89Eal"] [AP0] (Ah AHa)
def AHb(a c:BJ):AA Bool:=br (a.Total != c.Total) (some false) (br (a.DY != c.DY) (some false) (br (a.EZ != c.EZ) (some false) (br (a.FM != c.FM) (some false) (br (a.Fa != c.Fa) (some false) (some true)))))
def AP2:=gZ [.v (.st 3),.v (.st 3)] CI Bw ["F6zcOEXKN2dExpQQsvCe7aC0bDBbA25ywFkQfcMc66D528obmmzuzZiTBiONKrQ7Op"] [] (Ah AHb)
def AHc(a c:Ad):AA Bool:=br (a.Level != c.Level) (some false) (br (a.Ay != c.Ay) (some false) (br (a.Id != c.Id) (some false) (br (a.BB != c.BB) (some false) (some true))))
def AP3:=gZ sV CI Bw ["CkWjq9ffczlTzxvu8X0oAVTQYH7sa3T9Zrr4uTpaAOaAQENHtzSKnc"] [] (Ah AHc)
def xw(_:PUnit):AA Bool:=some true
def xx(c g:List Ad)(e:Int->AA Bool)(a:Int):AA Bool:=br (decide (a<c.length)) (bd (at? c a) fun h=>bd (at? g a) fun j=>bd (AHc h j) fun q=>br (!q) (some false) (e (w64 (a+1)))) (jn xw ())
def AHd(a c:List Ad):AA Bool:=br ((↑a.length:Int) != c.length) (some false) (A3 (xx a c) big 0)
def AP4:=gZ AEt CI Bw ["GHRhWqstcDrpD5WcZQwWPVsORRILLIVbHOn4I4il8hfHFP0AnRp3YXnU0UQuD"] [AP3] (Ah AHd)
def AHe(a c:A7):AA Bool:=br (a.At != c.At) (some false) (br (a.Id != c.Id) (some false) (some true))
def AP5:=gZ AEs CI Bw ["J8DYslJnFkerexRNKlpF3ue1BiHtcu"] [] (Ah AHe)
def xy(_:PUnit):AA Bool:=some true
def xz(c g:List A7)(e:Int->AA Bool)(a:Int):AA Bool:=br (decide (a<c.length)) (bd (at? c a) fun h=>bd (at? g a) fun j=>bd (AHe h j) fun q=>br (!q) (some false) (e (w64 (a+1)))) (jn xy ())
def AHf(a c:List A7):AA Bool:=br ((↑a.length:Int) != c.length) (some false) (A3 (xz a c) big 0)
def AP6:=gZ AEu CI Bw ["10HcKneyOr9iQUmei0irPrT9gC4WaAnG21luQVP8Da4Te6oLJsbsS7Sp8qw68"] [AP5] (Ah AHf)
def yA(_:PUnit):AA Bool:=some true
def yB(c g:List (List A7))(e:Int->AA Bool)(a:Int):AA Bool:=br (decide (a<c.length)) (bd (at? c a) fun h=>bd (at? g a) fun j=>bd (AHf h j) fun q=>br (!q) (some false) (e (w64 (a+1)))) (jn yA ())
def AHg(a c:List (List A7)):AA Bool:=br ((↑a.length:Int) != c.length) (some false) (A3 (yB a c) big 0)
def AP7:=gZ [.v (.l (.l (.st 5))),.v (.l (.l (.st 5)))] CI Bw ["4LfChQEvPhtuYot7K9jjIDjJEyyRAA6GlOX7y5hy3gjbPQaNNw2KarpVvG8a"] [AP6] (Ah AHg)
def AHh(a c:Av):AA Bool:=bd (AHg a.An c.An) fun e=>br (!e) (some false) (some true)
def AP8:=gZ [.v (.st 6),.v (.st 6)] CI Bw ["8W2Ta2aecoFzfhsVMN2"] [AP7] (Ah AHh)
def AHi(a c:AX):AA Bool:=bd (AHb a.AZ c.AZ) fun e=>br (!e) (some false) (bd (AHd a.Row c.Row) fun g=>br (!g) (some false) (bd (AHh a.Bq c.Bq) fun h=>br (!h) (some false) (some true)))
def AP9:=gZ [.v (.st 7),.v (.st 7)] CI Bw ["3BGgy9TFBQmVKd8lhUWwrsWDdOIpUV4SZ9Ji13OfuQE1AF8"] [AP2,AP4,AP8] (Ah AHi)
def xZ(_:PUnit):AA Bool:=some true
def cP(c g:List AX)(e:Int->AA Bool)(a:Int):AA Bool:=br (decide (a<c.length)) (bd (at? c a) fun h=>bd (at? g a) fun j=>bd (AHi h j) fun q=>br (!q) (some false) (e (w64 (a+1)))) (jn xZ ())
def AHR(a c:List AX):AA Bool:=br ((↑a.length:Int) != c.length) (some false) (A3 (cP a c) big 0)
def APo:=gZ [.v (.l (.st 7)),.v (.l (.st 7))] CI Bw ["dBF47VDqimaJdozyhKBWIQilnk2iY7QQtO54lFHnA8S6B088FFmUW6iWcR4FD"] [AP9] (Ah AHR)
def AHS(a c:AF):AA Bool:=bd (AHY a.AQ c.AQ) fun e=>br (!e) (some false) (br (a.Now != c.Now) (some false) (br (a.Ay != c.Ay) (some false) (bd (AHa a.AG c.AG) fun g=>br (!g) (some false) (bd (AHR a.AH c.AH) fun h=>br (!h) (some false) (bd (ZB a.BE c.BE) fun j=>br (!j) (some false) (bd (ZB a.BC c.BC) fun q=>br (!q) (some false) (some true)))))))
def APp:=gZ [.v (.st 8),.v (.st 8)] CI Bw ["3RzsYo2aGmWPkrGCFMr8dALmzatySPfnMC3B0wulFbwn7g9t0VrSa53s7KSbzVlnzirtuwK144XWwQOZ","7AwckEbDGuPOXS0GW0ev"] [APz,AP1,APo,iz] (Ah AHS)
def mu(a c:B3):AA Bool:=br (a.Data != c.Data) (some false) (br (a.Safe != c.Safe) (some false) (some true))
def APq:=gZ [.v (.st 9),.v (.st 9)] CI Bw ["J8DYslJnFkerexRNKlpF3ue1BiHtcu"] [] (Ah mu)
def AHT(a c:Br):AA Bool:=bd (mu a.Log c.Log) fun e=>br (!e) (some false) (bd (mu a.EJ c.EJ) fun g=>br (!g) (some false) (bd (mu a.Odd c.Odd) fun h=>br (!h) (some false) (some true)))
def APr:=gZ [.v (.st 10),.v (.st 10)] CI Bw ["QmpWgStaES9Z8A15tNZJVTEdlUdpAdXlk7eDOdZXe59vfW"] [APq] (Ah AHT)
def cQ(a c:Bo):AA Bool:=br (a.Kind != c.Kind) (some false) (br (a.Id != c.Id) (some false) (br (a.AY != c.AY) (some false) (br (a.Bk != c.Bk) (some false) (br (a.BB != c.BB) (some false) (br (a.Cv != c.Cv) (some false) (some true))))))
def ADv:=gZ [.v (.st 0),.v (.st 0)] CI Bw ["PdDO4OLge3LVnH2jcjyimL8YKokXGBfX5tbdIckftNyDHfixLG0dJAEcR8asKvmBqYPmp3il5xmVtAr"] [] (Ah cQ)
def xb(_:PUnit):AA Bool:=some true
def xc(c g:List Bo)(e:Int->AA Bool)(a:Int):AA Bool:=br (decide (a<c.length)) (bd (at? c a) fun h=>bd (at? g a) fun j=>bd (cQ h j) fun q=>br (!q) (some false) (e (w64 (a+1)))) (jn xb ())
def xa(a c:List Bo):AA Bool:=br ((↑a.length:Int) != c.length) (some false) (A3 (xc a c) big 0)
def ADw:=gZ [.v (.l (.st 0)),.v (.l (.st 0))] CI Bw ["8a2zk9ScBaLVX3E5Ouu38GmnPA6oYXd78Mz4PuU2zVjcWk39w40NpSxST1M2E"] [ADv] (Ah xa)
def AHU(a c:BD):AA Bool:=bd (AHS a.Az c.Az) fun e=>br (!e) (some false) (bd (AHT a.Bl c.Bl) fun g=>br (!g) (some false) (br (a.Seq != c.Seq) (some false) (bd (xa a.Laid c.Laid) fun h=>br (!h) (some false) (some true))))
def APs:=gZ [.v (.st 11),.v (.st 11)] CI Bw ["21TXEzkvCynLLygttJLNsYPHFgK5XftBoygi4Xssf4VSxhjYn1z35WTqmKwY"] [APp,APr,ADw] (Ah AHU)
def AHV(a:Ae):AA (List Int):=bd (ADO a) fun c=>br (!c) (some []) (gd ([a.Ce,a.Room,a.BB,a.CE,a.B0,a.Rest,a.Cd,a.C3].length+a.AZ.length<=lim) (some ([a.Ce,a.Room,a.BB,a.CE,a.B0,a.Rest,a.Cd,a.C3]++a.AZ)))
def APt:=gZ Tr M1 Ca ["BlAU1efJrhLT4bd2fJBh3BXCU1ZgE17AlVH9lNvwWT704gK9ZSAFbcZGU7hKoz"] [ABO] (Be AHV)
def xe(a:List Int):AA (List Int):=some a
def cU(h:AF)(g:List Int×Int->AA (List Int))(j:List Int×Int):AA (List Int):=let (a,c):=j;br (decide (c<h.BC.length)) (bd (at? h.BC c) fun e=>gd (e9 a+[w64 (e+1)].length<=lim) (g (a++[w64 (e+1)],w64 (c+1)))) (jn xe a)
def U2(c:AF)(a:List Int):AA (List Int):=gd (a.length+[(↑c.BE.length:Int)].length<=lim) (gd ((a++[(↑c.BE.length:Int)]).length+c.BE.length<=lim) (A3 (cU c) big (a++[(↑c.BE.length:Int)]++c.BE,0)))
def cS(e:AF)(h:List Int×Int->AA (List Int))(j:List Int×Int):AA (List Int):=let (g,a):=j;br (decide (a<e.AH.length)) (bd (at? e.AH a) fun c=>gd (e9 g+[c.AZ.DY].length<=lim) (h (g++[c.AZ.DY],w64 (a+1)))) (jn (U2 e) g)
def U1(a:AF)(c:List Int):AA (List Int):=A3 (cS a) big (c,0)
def cR(c:AF)(h:List Int×Int->AA (List Int))(j:List Int×Int):AA (List Int):=let (e,g):=j;br (decide (g<c.AG.length)) (bd (at? c.AG g) fun a=>gd (e9 e+[a.Id,a.AY,w64 (a.Bk+1),a.BB,a.Cv,a.Since,a.Ay,a.State,a.Cq,a.DB].length<=lim) (h (e++[a.Id,a.AY,w64 (a.Bk+1),a.BB,a.Cv,a.Since,a.Ay,a.State,a.Cq,a.DB],w64 (g+1)))) (jn (U1 c) e)
def xd(a:AF):AA (List Int):=bd (Ud a) fun e=>br (!e) (some []) (bd (AHV a.AQ) fun c=>gd ([(↑(e9 c):Int)].length+e9 c<=lim) (gd (([(↑(e9 c):Int)]++c).length+[a.Now,a.Ay,(↑a.AG.length:Int)].length<=lim) (A3 (cR a) big ([(↑(e9 c):Int)]++c++[a.Now,a.Ay,(↑a.AG.length:Int)],0))))
def ADx:=gZ Ns M1 Ca ["QRTbm3wAlEgBh7aZ8nNH5dyDE0XP4zPGNlLe3TfayuEZ6hcMNSHEcsAtOb4UDC14zNTUPxFqFhFVjKLo","xhEfPiWGJbMRMPmWesfxUbQsZ6htTkVb4Qwalc7wFXCpO7DP35i4q5pyKlfdQ34lFgE1F0CoNdx7ec8y","PsWmzEfQ99AjEOpXf7FaUEWsqMfEYpbp08Y5aDeEllEaiqc5A9n7OxuPfMEG7HpaG4zTpART4vgyEQVz","ILjXDk1dmWRJx6fgTAqcDgYW75vYoUKA6DFgR06JHGTUctkzrk5i6fRCdHMHYm"] [Ti,APt] (Be xd)
def xg(e:Int×List UInt8):AA (List UInt8):=let (a,c):=e;gd (c.length+[toB a].length<=lim) (some (c++[toB a]))
def xh(e:Int×List UInt8->AA (List UInt8))(g:Int×List UInt8):AA (List UInt8):=let (a,c):=g;br (decide (a>127)) (gd (c.length+[toB (w64 (Int.tmod a 128+128))].length<=lim) (e (w64 (Int.tdiv a 128),c++[toB (w64 (Int.tmod a 128+128))]))) (jn xg (a,c))
def cV(a:Int):AA (List UInt8):=bd (ED a 0 2147483647) fun c=>br (!c) (some []) (A3 xh big (a,[]))
def ADy:=gZ Xt (.ret [(.l .u)]) Ca ["1X5w9uOHkmDHZBVzJ18GUIyAv41SNU8i9aNOB1FaJYMRhDu1vVK13oSrn8XETwtGUzX9fuS1f6IofFGm","iPP7N4Gq"] [Gx] (Be cV)
def yO(a:List UInt8):AA (List UInt8):=some a
def dG(e:List Int)(h:List UInt8×Int->AA (List UInt8))(q:List UInt8×Int):AA (List UInt8):=let (a,c):=q;br (decide (c<e.length)) (bd (at? e c) fun j=>bd (cV j) fun g=>gd (e9 a+e9 g<=lim) (h (a++g,w64 (c+1)))) (jn yO a)
def ZC(a:List Int):AA (List UInt8):=A3 (dG a) big ([],0)
def AD4:=gZ Tq Nu Ca ["DA0IJpc5QYUylb9fbaVkvetzHdvBtuFeeLPpBGL4gilQfMM7wKHFlJuNs6StOT"] [ADy] (Be ZC)
def dH(a:Int×Int->AA Int)(c e:Int):AA Int:=a (e,w64 (c+1))
def yQ(a:Int×Int->AA Int)(c e:Int):AA Int:=a (e,w64 (c+1))
def dJ(g:Int×Int->AA Int)(h:Int)(e:Int×Int->AA Int)(j:Int×Int):AA Int:=let (a,c):=j;br (decide (c<8)) (br (Int.tmod a 2==1) (jn (dH e c) (aA (w64 (Int.tdiv a 2)) 3988292384)) (jn (dH e c) (w64 (Int.tdiv a 2)))) (jn (yQ g h) a)
def yR(a:Int):AA Int:=some (aA a 4294967295)
def dI(c:List UInt8)(g:Int×Int->AA Int)(j:Int×Int):AA Int:=let (e,a):=j;br (decide (a<c.length)) (bd (at? c a) fun h=>A3 (dJ g a) big (aA e (w64 (↑(UInt8.toNat h):Int)),0)) (jn yR e)
def yP(a:List UInt8):AA Int:=A3 (dI a) big (4294967295,0)
def AD5:=gZ [.v (.l .u)] CZ Ca ["2KONUfqRF7XsgNJAc7JgosNQBUhEmoJWpwWsH5LcFg8DL9OO1bAIC8JJMS5shJSxMvzpY0b1UL2c5wex","ePsIYHL76M0bqLBxn7beeaOCaVlR5Okw9LmaApxjPr8"] [] (Be yP)
def yS(a:Int):AA (List UInt8):=some ([toB (Dy a 24),toB (Dy a 16),toB (Dy a 8),toB a])
def AD6:=gZ Xt Nu Ca ["A4AiVyIEB0630ppwnrNjOtY5R5p2fudOysnmlpv4MnL"] [] (Be yS)
def dK(h:AF)(c:Int)(j:Bool):AA (List UInt8):=br j (some []) (bd (xd h) fun e=>gd ([c].length+e9 e<=lim) (bd (ZC ([c]++e)) fun a=>bd (yP a) fun q=>bd (yS q) fun g=>gd (e9 g+e9 a<=N5) (some (g++a))))
def yT(a:AF)(c:Int):AA (List UInt8):=bd (Ud a) fun e=>br (!e) (jn (dK a c) true) (bd (ED c 0 1000000) fun g=>jn (dK a c) (!g))
def AD7:=gZ HH Nu Bw ["LqFxtDjZCSj1MgGh2DdJWCy1Yqg6FzKOkBHXPMS9GwmK3xDUQFIlm8KSIDNhD"] [Ti,Gx,ADx,AD4,AD5,AD6] (Ah yT) [.MF 21 (.tmp 20)]
end Lv
