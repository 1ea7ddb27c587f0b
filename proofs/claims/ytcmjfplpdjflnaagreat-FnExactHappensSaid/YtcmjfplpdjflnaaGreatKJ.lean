/- Functions of the program as typed texts and as plain functions. -/
import Derived.Test.YtcmjfplpdjflnaaGreatKI
open List renaming length->e9,take->e8,drop->g0
open Int renaming toNat->o4
noncomputable section
set_option linter.unusedVariables false
set_option linter.unusedSimpArgs false
set_option linter.unusedSectionVars false
set_option maxRecDepth 100000
namespace Lv
open Go (IntKind BinOp UnOp)
open Y (YF qn qf qt qr q1 qd qm qa qo ql qL qb qi qx qp qq qc qz qe qk qK qB qw qu qj Kp wn wf wt w1 sw sq sr wm wM wo wO wl wL wk wK wz wZ wx wX wb wB wi wI wr wR wq wQ we wE wc wY wj wh cv ca cx cn ce bl)
def Abw:YF:=⟨[],[.v (.st 14),.v .i],[],.ret [.i],[.tmp 4],dY ["2JexRSwOLPtCvf4RWnyu07IGiuy"] [ABQ]⟩
def AJE(c:Iu)(e:Int):AA Int:=bd (ADQ c.Ji e) fun a=>br (decide (a<0)) (some (-1)) (some a)
def ASD:GF:=Abw.gf rfl rfl (fun a=>AJE a.1 a.2.1) (fun a=>by kernel_rfl)
def Abx:YF:=⟨[],[.v (.st 14)],[],.ret [(.st 14)],[.cell 2 (some 9)],dY ["x8blpgRgw3RcjyZKoD4AV5omW5nGLtYpXAq3OiiK34w7jcy6"] [APP,ABR]⟩
def Q4(a:Iu):AA Iu:=bd (AOK a.Req) fun c=>bd (AA6 a.Ji) fun e=>some (Iu.mk a.Kind c a.N_ e)
def ASE:GF:=Abx.gf rfl rfl (fun a=>Q4 a.1) (fun a=>by kernel_rfl)
def Aby:YF:=⟨[],[.v (.l (.st 12))],[],.ret [(.l (.st 12))],[.tmp 2],dY ["ooLwznrufwmZZVcMq2kvJYHptzYAVyB2ciHRGsiUwu4ebNqkY2sGdeVu2zk94bY7A95ASzxFipy1Owvo","cVr9SEj6mEYL"] []⟩
def AAn(a:List Bf):AA (List Bf):=some a
def hH(c:List Bf)(j:List Bf×Int->AA (List Bf))(q:List Bf×Int):AA (List Bf):=let (e,a):=q;br (decide (a<c.length)) (bd (at? c a) fun h=>bd (at? c a) fun g=>gd (0+g.Ids.length<=lim) (gd (e9 e+[Bf.mk h.Code ([]++g.Ids)].length<=lim) (j (e++[Bf.mk h.Code ([]++g.Ids)],w64 (a+1))))) (jn AAn e)
def AAm(a:List Bf):AA (List Bf):=A3 (hH a) big ([],0)
def ASF:GF:=Aby.gf rfl rfl (fun a=>AAm a.1) (fun a=>by kernel_rfl)
def Abz:YF:=⟨[],[.v (.st 13)],[],.ret [(.st 13)],[.cell 2 (some 26)],dY ["DN20ZGmUMsYQLxZbe7kTPeaxoTHxBDt3UCig9VcaYI2lm0L94saWVBrH7PbQCFBEYsJyiiPz1PfQUSQC","4o7ZO3Io1hrTDbhkk8ObTjQZSmro99UBxVP5bCpU7MibW1xpdFbuY"] [Xo,ASF]⟩
def AAo(a:CB):AA CB:=bd (Ss a.Ac) fun c=>gd (0+a.GG.length<=lim) (bd (AAm a.Cx) fun e=>bd (Ss a.Ac) fun g=>gd (0+a.GG.length<=lim) (bd (AAm a.Cx) fun h=>lP c g (eqv ([]++a.GG) ([]++a.GG) (eqv e h (eqv a.GH a.GH (some (CB.mk c ([]++a.GG) e a.GH)))))))
def AEl:GF:=Abz.gf rfl rfl (fun a=>AAo a.1) (fun a=>by kernel_rfl)
def Ab0:YF:=⟨[],[.v (.st 13),.v (.l .i)],[],.ret [(.st 13),.i],[.cell 4 (some 26),.tmp 5],dY ["9Lzd0R0Pg0GakKvKHOGCNdJl9FmMVIFgleWnkTvFM7RomHuTHiFQ0pL4QDEOTnsjtDwJDrLMjvZl8VBf","yB9C2U9mJnWodrekIbBYYjqh0h2JLxY5aclS0gWIysbZFVmtvhWPkv2lufkBg6cAOLZZINVW0j7osCVc","mAvs3gY2cYQw5RJdd3ceXPdiOQ4ysdlszHnTJW09F5BNpNVY8PdzCWp388A5XtWm3LkxC2dyhityNwNz","yru6j5Xrgc0u"] [AEl,ASA,Gx,AEj,AEn,sF]⟩
def AO1(a:CB)(h:List Int):AA (CB×Int):=bd (AAo a) fun e=>bd (AJD a h) fun c=>bd (ED c 0 (↑a.Ac.Laid.length:Int)) fun q=>br (!q) (some (e,21)) (bd (AAj a.Ac.Bl h) fun y=>bd (AAx y) fun B=>gd (0<=c/\c<=a.Ac.Laid.length) (bd (gD a.Ac.Az (e8 (o4 c) a.Ac.Laid)) fun g=>bd (gD a.Ac.Az (e8 (o4 c) a.Ac.Laid)) fun j=>eqv g.snd j.snd (JG g.fst j.fst (gd (0<=c/\c<=a.Ac.Laid.length) (gd (e.GG.length+(e8 (o4 c) a.Ac.Laid).length<=lim) (gd (e.Cx.length+e9 g.snd<=lim) (some (CB.mk B.fst (e.GG++e8 (o4 c) a.Ac.Laid) (e.Cx++g.snd) (w64 (a.GH+1)),0))))))))
def ASc:GF:=Ab0.gf rfl rfl (fun a=>AO1 a.1 a.2.1) (fun a=>by kernel_rfl)
def Ab1:YF:=⟨[],[.v (.st 13),.v (.st 14)],[],.ret [(.st 13),.i],[.cell 4 (some 26),.tmp 5],dY ["c3LGa47HLEnNQGYbJjVk9tbudZaG1rTZ3LEauiGE7a0vUdi3QcQsoUM2LZ7mPCsBI0tNjaOcQP4uQUtn","jHy87kUrH0A1eKTUPxJirJ5hzds9V2M9rGA4iOuiPMSnKLO76zqkenTsg5Cp1cefIQOZgZsQq2rqGd5S","cKwITfQgNjnwbg5FIrYChrNK8nchRik3BiAUiFOteyYcKsXpesh9Z8Af2e7G6KO0dWKFobBjTr3CMqbb","geSbhAVNxGlNG1Dw3nxNyXGDKECa81pdvtlba7ijMisEDL"] [AEl,Gx,Xk,AQm,ARd,ASK,ASc]⟩
def Q8(e:Int×CB):AA (CB×Int):=let (a,c):=e;some (c,a)
def iQ(c:CB)(e:Iu):AA (CB×Int):=bd (AAo c) fun a=>bd (ED e.Kind 1 4) fun y=>br (!y) (some (a,26)) (bd (Y5 c.Ac) fun B=>br (!B) (some (a,21)) (br (e.Kind==1) (bd (AH8 c.Ac e.Req) fun j=>jn Q8 (j.snd,CB.mk j.fst a.GG a.Cx a.GH)) (br (e.Kind==2) (bd (AIq c.Ac) fun g=>gd (a.GG.length+c.Ac.Laid.length<=lim) (gd (a.Cx.length+e9 g.snd<=lim) (jn Q8 (0,CB.mk g.fst (a.GG++c.Ac.Laid) (a.Cx++g.snd) a.GH)))) (br (e.Kind==3) (bd (AAq c.Ac e.N_) fun h=>br (!h.snd) (jn Q8 (25,CB.mk h.fst a.GG a.Cx a.GH)) (jn Q8 (0,CB.mk h.fst a.GG a.Cx a.GH))) (bd (AO1 c e.Ji) fun q=>some (q.fst,q.snd))))))
def ASd:GF:=Ab1.gf rfl rfl (fun a=>iQ a.1 a.2.1) (fun a=>by kernel_rfl)
def Ab2:YF:=⟨[],[.v (.l (.st 12))],[],.ret [(.l (.st 12))],[.tmp 2],dY ["1iFdEZsytMyXjVk15esGn2DuqjmJVXIYsy3SeGx49JfBsnH683jKiWfFmlfcKqma6jD8gi2fCoYirqI1","BYJNJAN"] [Tl]⟩
def AA5(a:List Bf):AA (List Bf):=some a
def iR(g:List Bf)(j:List Bf×Int->AA (List Bf))(q:List Bf×Int):AA (List Bf):=let (a,c):=q;br (decide (c<g.length)) (bd (at? g c) fun e=>bd (JX e.Ids) fun h=>gd (e9 a+[Bf.mk e.Code h].length<=lim) (j (a++[Bf.mk e.Code h],w64 (c+1)))) (jn AA5 a)
def AJR(a:List Bf):AA (List Bf):=A3 (iR a) big ([],0)
def ASe:GF:=Ab2.gf rfl rfl (fun a=>AJR a.1) (fun a=>by kernel_rfl)
def Ab3:YF:=⟨[],[.v (.st 13)],[],.ret [(.st 13)],[.cell 2 (some 26)],dY ["gGneqfYr7UgV8YdzofZziDT80yCp3yeK23lxbXmumsZSuG4ZT2vVHhSmkXEo1GXE8X"] [Xp,ASe]⟩
def AJS(a:CB):AA CB:=bd (ZE a.Ac) fun c=>gd (0+a.GG.length<=lim) (bd (AJR a.Cx) fun e=>some (CB.mk c a.GG e a.GH))
def ASf:GF:=Ab3.gf rfl rfl (fun a=>AJS a.1) (fun a=>by kernel_rfl)
def Ab4:YF:=⟨[],[.v (.st 13),.v (.st 14)],[],.ret [(.st 13),.i],[.cell 4 (some 26),.tmp 5],dY ["i0pXBqt8TG7tmczaCqI4FtHCGnCTlEmjbBg7dLAfLHDTvwTfvw1TPRDHMIJPwQ9E5MhySaUE6Z4gorJa","HuZHlXVyJy7CaPApTZRCoOplhXYqXqZW6FXZWvaRbBXp6GFXW2fOr0sopDU1dfrTk9Y2U7MB1yTfMXe3","MV34Whc0Q4VzcwNEF9xwytZmGV67zwcCLmHJbzPMncwh75JtSnUx8tGDOciL4V88VAQvFyum6yTNeaBJ","dIhCDtOGVlSFXvdPRVA5G3KajBpDYdJWyGtwDi2nqAFYVTCsxVoDVI4a0MQr4GJjYk1cNYBiK0ZCkzIg","c80OwOIKaqWPzVAupk8IkR9s3vcM9uhkB2BptwBq9oQSEOCYh9aLcFZbZMM3X5I1qmWaPx1dQmejr1k7","B0PzKxixHYUQUURsSSG872diENdTPUFjCjs0toytrJcC6w3TzXuN2zWONgYC56StibpIj4ubw0za3k8t","8lvFcvdmiLhj8j2qJkOfXNdzx8XtJfRoJ2rZMgAijvEQKK8rFsqUOtVWHNX1eWHezwMTcpo"] [ASf,Eb,Xm,ASC,AQY,ARp,ASL,sM,AEk,AEp]⟩
def V1(a:CB):AA (CB×Int):=some (a,0)
def Vz(g:CB)(h:Iu)(a:CB)(H:Bool):AA (CB×Int):=br H (some (a,21)) (br (h.Kind==1) (bd (AHx g.Ac h.Req) fun G=>some (CB.mk G.fst a.GG a.Cx a.GH,G.snd)) (br (h.Kind==2) (bd (AIx g.Ac) fun B=>gd (a.GG.length+a.Ac.Laid.length<=lim) (gd (a.Cx.length+e9 B.snd<=lim) (jn V1 (CB.mk B.fst (a.GG++a.Ac.Laid) (a.Cx++B.snd) a.GH)))) (br (h.Kind==3) (bd (AJI g.Ac h.N_) fun E=>br (!E.snd) (some (CB.mk E.fst a.GG a.Cx a.GH,25)) (jn V1 (CB.mk E.fst a.GG a.Cx a.GH))) (bd (AAl g h.Ji) fun e=>gd (0<=e/\e<=a.Ac.Laid.length) (bd (gV g.Ac.Az (e8 (o4 e-0) (g0 0 a.Ac.Laid))) fun c=>bd (gV g.Ac.Az (e8 (o4 e-0) (g0 0 a.Ac.Laid))) fun j=>eqv c.snd j.snd (JG c.fst j.fst (bd (AAk g.Ac.Bl h.Ji) fun q=>bd (AA1 q) fun y=>gd (0<=e/\e<=a.Ac.Laid.length) (gd (a.GG.length+(e8 (o4 e-0) (g0 0 a.Ac.Laid)).length<=lim) (gd (a.Cx.length+e9 c.snd<=lim) (jn V1 (CB.mk y.fst (a.GG++e8 (o4 e-0) (g0 0 a.Ac.Laid)) (a.Cx++c.snd) (w64 (a.GH+1)))))))))))))
def ZL(a:CB)(c:Iu):AA (CB×Int):=bd (AJS a) fun e=>bd (C0 c.Kind 1 4) fun j=>br (!j) (some (e,26)) (bd (ZA a.Ac) fun q=>br (!q) (jn (Vz a c e) true) (br (c.Kind==4) (bd (AAl a c.Ji) fun g=>bd (C0 g 0 (↑e.Ac.Laid.length:Int)) fun h=>jn (Vz a c e) (!h)) (jn (Vz a c e) false)))
def ASg:GF:=Ab4.gf rfl rfl (fun a=>ZL a.1 a.2.1) (fun a=>by kernel_rfl)
def Ab5:YF:=⟨[],[.v (.st 14),.v (.st 14)],[],.ret [.b],[.tmp 4],dY ["2DDVVe6jP8Am5VZMhKEUgOiQoZIceja6CmSQH5LMgLqDgBSolHWEMfatu"] [ADv,iz]⟩
def AJT(a c:Iu):AA Bool:=br (a.Kind != c.Kind) (some false) (bd (cQ a.Req c.Req) fun e=>br (!e) (some false) (br (a.N_ != c.N_) (some false) (bd (ZB a.Ji c.Ji) fun g=>br (!g) (some false) (some true))))
def ASh:GF:=Ab5.gf rfl rfl (fun a=>AJT a.1 a.2.1) (fun a=>by kernel_rfl)
def Ab6:YF:=⟨[],[.m (.st 14),.v .i],[],.ret [.i],[.tmp 4],dY ["xKEzCkAbIAup8iIy1xM"] [i5]⟩
def AJU(a:Iu)(e:Int):AA (Int×Iu):=bd (ZD a.Ji e) fun c=>some (c.fst,Iu.mk a.Kind a.Req a.N_ c.snd)
def ASi:GF:=Ab6.gf rfl rfl (fun a=>AJU a.1 a.2.1) (fun a=>by kernel_rfl)
def Qb:YF:=⟨[],[.v (.st 13),.v (.st 14)],[],.ret [.b],[.tmp 4],dY ["SYe58GrNtR0LXQpsumZV0C7zynp60fsppagZK18TcIzrttAT6Jocu8Gh6alKkh2MHUo25lF7F5xupRLy","h45TsOOz1Dnr8QrkaZIFoEXK3EZ17vkEOi1kL6wuYtMwlCOSRoThBwcTuCEiYy9fqateqGAUhG9kPAup","MiRxqr9Mz7d4G9TIGQu1xx2K0y2bhoVApT92kYI1hvztkmnyBaHoFIre85SJQzXah5jCSYzrx7nIy3wC","JeF0F3p270wCqTdeFmY7YrnlQn4V0lIHM6EiDbwXhGwKd56BQTZ82IxbM9ViAHOuvrc1R7mK3iA26YdM","54DpjfdvrLcFiQeH8c6TkQIvoYKoZcOL2svagKfSGzlYWPRdqdS50mLVqgZLSFN0tfOtZGfykyNukmmW","xkeOYPS7s3gyJcU8sNVbG3in1LC6AL9L5ToDDipvij4ooKCKNxsldA0cctJqGwZ2CuKGFvvNUjxSoJkw","I8I46ryi0vOJ7Uu1IeGdxP6LCfHF6kAhJdwjWexqvN4YT3SZUPtUcwwDmWSOnm8bOyTBriU9d8YVvdIZ","fUEGlXeYAeyF4SAkuzFsJGmap2E4RtrQ7TGdTAPMnldgYgBwP6bwpx0Tzy2YYM5uOMt9V2qtxCD0Mnft","eVJTANkZ446TV26xSQojyxWjzcRYjYGYxlrwkdWaMcHjVRjDWFZY3Vk5uwveGWXnTsbnFWUfqHZM4FFt","POWiZlQIKcmhu2lrU6A3lpWZcQP9X5O9joq86MwfnyNMEF"] [ASX,ASD,ASa,ASE,ASd,ASg,AQf,ASh,AQh,ASi,AQj]⟩
def Gn(a:CB×Int)(c:Int×CB)(g:Bool):AA Bool:=br g (some false) (bd (zU (CB.mk (BD.mk (AF.mk (Ae.mk c.snd.Ac.Az.AQ.AZ a.fst.Ac.Az.AQ.Ce a.fst.Ac.Az.AQ.Room a.fst.Ac.Az.AQ.BB a.fst.Ac.Az.AQ.CE a.fst.Ac.Az.AQ.B0 a.fst.Ac.Az.AQ.Rest a.fst.Ac.Az.AQ.Cd a.fst.Ac.Az.AQ.C3) a.fst.Ac.Az.Now a.fst.Ac.Az.Ay c.snd.Ac.Az.AG c.snd.Ac.Az.AH c.snd.Ac.Az.BE c.snd.Ac.Az.BC) a.fst.Ac.Bl a.fst.Ac.Seq c.snd.Ac.Laid) c.snd.GG c.snd.Cx a.fst.GH) 1) fun e=>br (decide (e<0)) (some false) (br (e != c.fst) (some false) (some true)))
def FD(O:CB)(E:Iu)(Q a:CB×Int)(G:Bool):AA Bool:=br G (some false) (bd (zR a.fst 1) fun c=>bd (zU (CB.mk (BD.mk (AF.mk (Ae.mk c.snd.Ac.Az.AQ.AZ a.fst.Ac.Az.AQ.Ce a.fst.Ac.Az.AQ.Room a.fst.Ac.Az.AQ.BB a.fst.Ac.Az.AQ.CE a.fst.Ac.Az.AQ.B0 a.fst.Ac.Az.AQ.Rest a.fst.Ac.Az.AQ.Cd a.fst.Ac.Az.AQ.C3) a.fst.Ac.Az.Now a.fst.Ac.Az.Ay c.snd.Ac.Az.AG c.snd.Ac.Az.AH c.snd.Ac.Az.BE c.snd.Ac.Az.BC) a.fst.Ac.Bl a.fst.Ac.Seq c.snd.Ac.Laid) c.snd.GG c.snd.Cx a.fst.GH) 1) fun h=>br (decide (h<0)) (some false) (br (h != c.fst) (some false) (bd (Vx O) fun g=>bd (Q4 E) fun j=>bd (ZL g j) fun e=>bd (ZL g j) fun q=>eqv e.snd q.snd (Nj e.fst q.fst (bd (Q4 E) fun H=>bd (ZL g H) fun y=>eqv e.snd y.snd (Nj e.fst y.fst (bd (Vx O) fun I=>bd (Q4 E) fun J=>bd (ZL I J) fun B=>eqv e.snd B.snd (Nj e.fst B.fst (bd (dv e.fst Q.fst) fun L=>br (!L) (jn (Gn a c) true) (jn (Gn a c) (e.snd != Q.snd)))))))))))
def Gm(h:CB)(j:Iu)(g:CB×Int)(c:CB)(e:Iu)(a:CB×Int)(q:Bool):AA Bool:=br q (some false) (bd (Vx h) fun y=>bd (dv c y) fun B=>br (!B) (some false) (bd (Q4 j) fun E=>bd (AJT e E) fun G=>br (!G) (some false) (bd (zR c 1) fun H=>bd (AJU e H.fst) fun I=>br (decide (I.fst<0)) (jn (FD h j g a) true) (bd (dv a.fst g.fst) fun J=>br (!J) (jn (FD h j g a) true) (jn (FD h j g a) (a.snd != g.snd))))))
def GB(j:CB)(e:Iu):AA Bool:=bd (AJO j 1048576) fun G=>br (decide (G<0)) (some true) (bd (AJE e G) fun L=>br (decide (L<0)) (some true) (bd (Vx j) fun E=>bd (Q4 e) fun H=>bd (iQ E H) fun a=>bd (iQ E H) fun I=>eqv a.snd I.snd (Nj a.fst I.fst (bd (Q4 e) fun O=>bd (iQ E O) fun J=>eqv a.snd J.snd (Nj a.fst J.fst (bd (Vx j) fun Q=>bd (Q4 e) fun y=>bd (iQ Q y) fun q=>eqv a.snd q.snd (Nj a.fst q.fst (bd (Vx j) fun g=>bd (Q4 e) fun h=>bd (ZL g h) fun c=>bd (dv c.fst a.fst) fun B=>br (!B) (jn (Gm j e a g h c) true) (jn (Gm j e a g h c) (c.snd != a.snd))))))))))
def Eh:GF:=Qb.gf rfl rfl (fun a=>GB a.1 a.2.1) (fun a=>by kernel_rfl)
end Lv
