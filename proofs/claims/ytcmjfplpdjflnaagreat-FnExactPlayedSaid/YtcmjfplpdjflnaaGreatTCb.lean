/- The typed machine is right about the light one. -/
import Derived.Test.YtcmjfplpdjflnaaGreatTBb
set_option linter.unusedVariables false
set_option linter.unusedSimpArgs false
set_option linter.unusedSectionVars false
namespace Lv
namespace Y
open Go (IntKind BinOp UnOp)
noncomputable section
def Rd(c a:Type):Type:=Nat->Nat->(a->Nat->Nat->c)->c
section
variable{c α β γ δ ε ζ:Type}
def gt:List α->Nat->α->α| [],_,a=>a|b::_,0,_=>b|_::l,n+1,a=>gt l n a
def rdE:List Nat->Nat->Nat->(Nat->Nat->c)->c
 | [],_,_,K=>K 0 0|e::l,r,q,K=>match Nat.blt r (e % 1024+1) with|true=>DG ((e % 1024+1)*q+r) fun x=>DG (e / 1024) fun s=>K s x|false=>rdE l (r-(e % 1024+1)) q K
def nu(l:List Nat):Rd c Nat:=fun x d K=>rdE l (x % 1024) (x / 1024) fun s x=>match Nat.beq s 999 with|true=>DG (x % 1024) fun s=>DG (x / 1024) fun x=>K s x d|false=>K s x d
def stp(z v:Nat):Nat:=(z / 1024 |||1 <<< (v+512))*1024+v
def dD(l:List Nat):Rd c Nat:=fun x z K=>nu l x z fun s x z=>DG (z % 1024+s-160) fun v=>DG (stp z v) fun z=>K v x z
def dA(l:List Nat):Rd c Nat:=fun x z K=>nu l x z fun v x z=>DG (stp z v) fun z=>K v x z
def sl(l:List Nat):Rd c Nat:=fun x z K=>nu l x z fun s x z=>DG (z % 1024+160-s) fun v=>K v x z
def m1(f:α->β)(a:Rd c α):Rd c β:=fun x d K=>a x d fun u x d=>K (f u) x d
def m2(f:α->β->γ)(a:Rd c α)(b:Rd c β):Rd c γ:=fun x d K=>a x d fun u x d=>b x d fun v x d=>K (f u v) x d
def m3(f:α->β->γ->δ)(a:Rd c α)(b:Rd c β)(e:Rd c γ):Rd c δ:=fun x d K=>a x d fun u x d=>b x d fun v x d=>e x d fun w x d=>K (f u v w) x d
def m4(f:α->β->γ->δ->ε)(a:Rd c α)(b:Rd c β)(e:Rd c γ)(g:Rd c δ):Rd c ε:=fun x d K=>a x d fun u x d=>m3 (f u) b e g x d K
def m5(f:α->β->γ->δ->ε->ζ)(a:Rd c α)(b:Rd c β)(e:Rd c γ)(g:Rd c δ)(h:Rd c ε):Rd c ζ:=fun x d K=>a x d fun u x d=>m4 (f u) b e g h x d K
def rep(m:Rd c α):Nat->Rd c (List α)|0=>fun x d K=>K [] x d|n+1=>m2 .cons m (rep m n)
def li(l:List Nat)(m:Rd c α):Rd c (List α):=fun x d K=>nu l x d fun n x d=>rep m n x d K
def kd(e:List Nat):Nat->Nat->Rd c (List Nat)|0,_=>fun x d K=>K [] x d|n+1,p=>fun x d K=>nu e x d fun s x d=>DG (p+s) fun v=>kd e n v x d fun r=>K (v::r)
def ke(l e:List Nat):Rd c (List Nat):=fun x d K=>nu l x d fun n x d=>kd e n 0 x d K
def kp(t:List (List (List Nat)))(d:Nat):Nat->Nat->Nat->Nat->Nat->Nat->(List Nat->Nat->c)->c
 |0,_,_,_,_,x,K=>K [] x|f+1,i,o,w,p,x,K=>match Nat.beq (o |||w) 0 with
  |true=>K [] x|false=>DG (o / 2) fun o'=>DG (w / 2) fun w'=>DG (i+1) fun j=>match Nat.beq ((o |||w) % 2) 0 with
   |true=>kp t d f j o' w' p x K|false=>rdE (gt (gt t (match Nat.beq i d with|true=>0|false=>1+w % 2) []) p []) (x % 1024) (x / 1024) fun s x=>match s with|0=>kp t d f j o' w' 0 x K|_=>kp t d f j o' w' 1 x fun r=>K (i::r)
def bits:List Nat->Nat->Nat| [],a=>a|i::r,a=>DG (a |||1 <<< i) fun a=>bits r a
def cN(l:List Nat):Rd c Nat:=fun x z K=>nu l x z fun v x z=>DG ((z / 1024 |||1 <<< (v+512))*1024+z % 1024) fun z=>K v x z
def ix(t:List α)(a:α)(l:List Nat):Rd c α:=m1 (fun n=>gt t n a) (nu l)
def t0:List Nat:=[1803,3197,2085,6181,4120,5135,1022976]
def t1:List Nat:=[361,1216,7315,13448,4171,10295,5138,14347,6153,3079,1022978]
def t2:List Nat:=[526526,1023142,409740,527409,525351,524320,162843,157719,150547,158737,156688,144400,159759,146446,154637,147469,155661,160780,152587,153610,151562,161801,149513,139273,148489,141321,137225,143369,135177,537609,145416,138248,142342,133125,140293,124933,125956,136196,410628,122884,123908]
def t3:List Nat:=[2353,1241,5244,7286,90,6190,3102,1023002,14355,4111,8205,15369]
def t4:List Nat:=[165304,410916,409698,1023039,165931,411674,418826,414729,412681,415752,536584,544774]
def t5:List Nat:=[1511,193,2178,10293,13363,12330,16415,1023005]
def t6:List Nat:=[3730,247,1101,2062,1022988,8202]
def t7:List Nat:=[666,8426,3160,1044,4106,1022976]
def t8:List Nat:=[1254,3203,13422,15467,90,7238,8244,19505,4136,16418,21537,10262,24588,1022988,2058,6150]
def t9:List Nat:=[7999,8331,13363]
def t10:List Nat:=[611,16480,3131,7208,6181,11299,10274,24605,2072,5139,27662,8202,1022979]
def t11:List Nat:=[16624,13517,174,10344,8271,17460,7201,6171,3098,1040,24590,5132,18441,14344,19461,1022980]
def t12:List Nat:=[2513,1382,3248,1022988,6152]
def t13:List Nat:=[11592,1235,192,2118,3136,13363,16408,8216,1022999,10254,15372]
def t14:List Nat:=[1605,2279,3189,91]
def t15:List Nat:=[1537,9377,79,1023026,4136,15397,11294,17433,18451,23563,28683,8202,3081,14343,20487]
def t16:List Nat:=[3513,1423,6260,2102,1022985]
def t17:List Nat:=[7644,3483,1073,4140,2079,1022983]
def t18:List Nat:=[1315,15589,2146,5209,23634,10294,26667,6174,7196,9240,4120,3092]
def t19:List Nat:=[164403,1023201,183323,182295,178196,175124,187407,185358,177165,186380,174092,195596,171020,184330,169994,179210,191497]
def t20:List Nat:=[164170,165129,1023160,165984,166959,159763,157711,158735,145422,154633,151561,153609]
def t21:List Nat:=[8851,1342,3107,1022984]
def t22:List Nat:=[1920,73,2071,4110,3085]
def t23:List Nat:=[33684,33825,34832,1022990,35848,29703,36869,28676,26628,37891,27651]
def t24:List Nat:=[935,1064,2070,3083,1022983,8195]
def t25:List Nat:=[216,7368,13446,14422,16465,8253,10288,15398,1050,3096,5137,9231,2062,19468,6153,11272,1022983,20485,24580]
def t26:List Nat:=[527924,165322]
def t27:List Nat:=[165428,526794]
def t28:List Nat:=[2566,434,1093]
def t29:List Nat:=[282,1147,2130,3129,4151,5169,11311,6185,12329,9249,8224,7198,13340,15382,14354,22545,10253,21516,23560,24584,25605]
def t30:List Nat:=[1174,147,5251,1023061,4151,7222,3126,6197,2086,8230,9247,10265,11279,409613,16396,13323,20490,12298,17417,18440,14343,21510,24582,15365,19461,28676,23556,25603,26627,22530]
def t31:List Nat:=[164047,165070,166082,167044,168029,169030,170031,171030,1022986,172041,173063,175111,174087]
def t32:List Nat:=[11444,12459,5216,81,8259,3134,13372,7227,4147,1072,6171,15385,9237,10260,2061,16397,1022989]
def t33:List Nat:=[1366,10394,5232,12391,2139,6203,4134,13344,19488,7198,27668]
def t34:List Nat:=[3263,2225,1190,1023097,6227,4156,8228,7197,5144,9236,14350,15372,18441,10248,13319,23559,16390,22533,24581,31748,12292,19460,17412,132100]
def t35:List Nat:=[1929,1023022,15377,9228,6156,2059,20487,23558]
def t36:List Nat:=[4374,5275,2146,6224,7244,3146,8237,1023021,1065,9246,10261,11278,13322,12298,16391,14343,17413,15365,21508]
def t37:List Nat:=[2268,3281,1212,4208,5215,6195,7209,8221,1022992,9229,10252,12298,11270,13316,14339]
def t38:List Nat:=[168132,169105,170095,167022,171113,172128,173115,165931,174105,177176,175124,164883,1022995,176143,525324,179209]
def t39:List Nat:=[165416,166038,166997,409646,1023014,410659,167960,168982,169996,413703,175110,471046,528390,415749,524293,411652,171012]
def t40:List Nat:=[165797,1023029,165916,166918]
def t41:List Nat:=[165607,1023043,166935,165909,167952,169998,171019,168970,173064,175112,172039,174086,177158,176133,179205,178181,181252,182275,185347,184323,180227,183299,161794,189442,160770,188418,157698,186370,190465,158721,191489,187393,197633]
def t42:List Nat:=[4075,1022995]
def t43:List Nat:=[164856,1022982]
def t44:List Nat:=[934,1112]
def t45:List Nat:=[22100,1322,8319]
def t46:List Nat:=[717255,165275,1023075,410679]
def t47:List Nat:=[3488,9433,5308,4175,1087,6196,1022978]
def t48:List Nat:=[1932,114]
def t49:List Nat:=[165884,1022978]
def t50:List Nat:=[936,1068,2089]
def t51:List Nat:=[685,1361]
def t52:List Nat:=[383,1363,2158,3129,4136,5143,6164,8202,7178,1022984,9222,10246]
def t53:List Nat:=[281,10494,13393,16461,14395,17462,1078,15397,24599,11287,7181,8203,5128,6151,19462,1022982,12292,18436,20483]
def t54:List Nat:=[1827,219]
def t55:List Nat:=[2024,15370,13318,1022980]
def t56:List Nat:=[165243,166229,167061,1023031,167989,168974,169992,174086,171013,176132]
def t57:List Nat:=[1526,496,2071]
def t58:List Nat:=[1014,1032]
def uT:List (U):=[.int .i64 (-1),.nil,.bool false,.bool true,.int .i64 1000000,.int .i64 999,.int .i64 1000008,.int .i64 1000001,.int .i64 20000,.int .i64 9999,.int .i64 2147483647,.int .i64 127,.int .i64 128,.str [],.int .i64 4294967295,.int .i64 3988292384,.int .u64 24,.int .u64 16,.int .u64 8,.int .i64 (-5),.int .u64 1,.int .u64 4294967296,.int .u64 32,.int .u64 65536,.int .u64 256,.int .i64 1048576]
def hT:List (Sh):=[.one]
def cT:List (C):=[.l .i,.i,.st 4,.st 6,.l (.st 5),.st 5,.st 0,.st 12,.l (.st 12),.b,.st 2,.l (.st 4),.st 7,.u,.l .u,.st 8,.st 9,.l (.st 2),.l (.st 7),.st 15,.l (.st 15),.st 10,.st 11,.l (.st 0),.st 13,.m,.l (.l (.st 5)),.st 14,.l (.st 14)]
def nT:List (List (Nat×C)):=[[(0,.i)],[(8,.i)],[(0,.st 4)],[(0,.l (.st 5))],[(5,.st 4),(6,.l (.st 5))],[(0,.i),(11,.st 2),(12,.st 7),(13,.i),(14,.i),(22,.st 0)],[(0,.st 12)],[(0,.i),(11,.st 2),(12,.st 7),(13,.i),(14,.i),(22,.st 0),(23,.st 0),(24,.st 12)],[(0,.st 5)],[(0,.u)],[(0,.st 2)],[(0,.i),(11,.st 2),(12,.st 7),(13,.i),(14,.i)],[(1,.i)],[(11,.st 2),(12,.st 7),(13,.i),(14,.i)],[(0,.st 15)],[(0,.st 0)],[(22,.st 0)],[(12,.st 7)],[(6,.l (.st 5))],[(0,.un 0)],[(0,.st 14)],[(5,.st 4)],[(23,.st 0),(24,.st 12)]]
def zT:List (List U):=[[.nil,.int .i64 0,.int .i64 0,.int .i64 0,.int .i64 0,.int .i64 0,.int .i64 0,.int .i64 0,.int .i64 0],[.int .i64 0,.int .i64 0,.int .i64 0,.int .i64 0,.int .i64 0,.int .i64 0],[.int .i64 0,.int .i64 0,.int .i64 0,.int .i64 0,.int .i64 0,.int .i64 0,.int .i64 0,.int .i64 0,.nil],[.nil],[.int .i64 0,.int .i64 0,.int .i64 0,.int .i64 0,.int .i64 0,.nil,.nil],[.nil,.int .i64 0,.int .i64 0,.int .i64 0,.int .i64 0,.int .i64 0,.int .i64 0,.int .i64 0,.int .i64 0,.int .i64 0,.int .i64 0,.nil,.nil,.nil,.nil,.str [],.int .i64 0,.str [],.int .i64 0,.str [],.int .i64 0,.int .i64 0,.nil],[.int .i64 0,.nil],[.nil,.int .i64 0,.int .i64 0,.int .i64 0,.int .i64 0,.int .i64 0,.int .i64 0,.int .i64 0,.int .i64 0,.int .i64 0,.int .i64 0,.nil,.nil,.nil,.nil,.str [],.int .i64 0,.str [],.int .i64 0,.str [],.int .i64 0,.int .i64 0,.nil,.nil,.nil,.int .i64 0],[.int .i64 0,.int .i64 0,.int .i64 0,.int .i64 0,.int .i64 0,.int .i64 0,.int .i64 0,.int .i64 0,.int .i64 0,.int .i64 0],[.int .i64 0,.int .i64 0,.int .i64 0,.int .i64 0],[.int .i64 0,.int .i64 0],[.str [],.int .i64 0],[.nil,.int .i64 0,.int .i64 0,.int .i64 0,.int .i64 0,.int .i64 0,.int .i64 0,.int .i64 0,.int .i64 0,.int .i64 0,.int .i64 0,.nil,.nil,.nil,.nil],[.int .i64 0,.int .i64 0,.int .i64 0,.int .i64 0,.int .i64 0],[.nil,.int .i64 0,.bool false],[.int .i64 0,.str [],.int .i64 0],[.str [],.int .i64 0,.str [],.int .i64 0,.str [],.int .i64 0]]
def bT:List (Cls×BinOp):=[(.num,.sub),(.num,.lss),(.num,.add),(.num,.geq),(.num,.leq),(.num,.eql),(.num,.gtr),(.num,.neq),(.num,.rem),(.num,.quo),(.agg [.i,.i,.i,.i],.neq),(.agg [.i,.i],.neq),(.agg [.i,.i,.i,.i,.i,.i],.eql),(.num,.xor),(.num,.shr),(.num,.mul),(.agg [.i,.i],.eql),(.num,.shl),(.num,.or),(.num,.and),(.sl,.eql),(.bool,.neq)]
def UT:List (UnOp):=[.not]
def kT:List (IntKind):=[.u8,.i64,.u64]
def aT:List (AL):=[.val (.st 16) (some (.old 0)),.al (.cell 5 0),.num .u64,.val (.l .i) (some (.old 0)),.al (.cell 7 0)]
def pT:List (List Nat):=[t53,t45,t8,t45,t8,t8,t8,t11,t55,t8,t5,t28,t8,t9,t8,t8,t13,t53,t8,t8,t8,t21,t8,t8]
def kk(g:List Nat)(t:List (List (List Nat))):Rd c (List Nat):=fun x z K=>nu g x z fun s x z=>match s with|0=>kp t (z % 1024) 512 0 (z / 1024 % 2 ^ 512) (z / 1024 / 2 ^ 512) 1 x fun r x=>DG (bits r 0*1024+z % 1024) fun z=>K r x z|_=>ke t37 t52 x z fun r x z=>DG (bits r 0*1024+z % 1024) fun z=>K r x z
def od(l:List Nat)(q:Nat->Nat->Nat:=fun z s=>z % 1024+160-s):Rd c YO:=fun x d K=>nu l x d fun s x d=>match Nat.blt s 400 with
 |true=>DG (q d s) fun v=>K (.tmp v) x d|false=>match Nat.blt s 512 with|true=>DG (s-400) fun v=>K (.k (.int .i64 (Int.ofNat v))) x d|false=>K (.k (gt uT (s-512) .nil)) x d
def oo(l:List Nat):Rd c (Option YO):=fun x d K=>nu l x d fun s x d=>match Nat.blt s 400 with
 |true=>DG (d % 1024+160-s) fun v=>K (some (.tmp v)) x d|false=>match Nat.blt s 512 with
  |true=>DG (s-400) fun v=>K (some (.k (.int .i64 (Int.ofNat v)))) x d|false=>match Nat.blt s 700 with|true=>K (some (.k (gt uT (s-512) .nil))) x d|false=>K none x d
def on(l:List Nat):Rd c (Option Nat):=m1 (fun n=>match n with|0=>none|n+1=>some n) (nu l)
def bo(l:List Nat):Rd c Bool:=m1 (fun n=>match n with|0=>false|_=>true) (nu l)
def gu(l e:List Nat):Rd c (Option (Nat×Bool)):=fun x d K=>nu l x d fun s x d=>match s with|0=>K none x d|1=>sl e x d fun v=>K (some (v,false))|_=>sl e x d fun v=>K (some (v,true))
def nl(a b e:List Nat):Rd c (List (CE×C)):=m3 (fun k s p=>p.map fun q=>(match k with|false=>.cell s q.1|true=>.tmp s q.1,q.2)) (bo a) (sl b) (ix nT [] e)
def aL(l:List Nat):Rd c AL:=fun x d K=>nu l x d fun s x d=>match Nat.blt s 500 with|true=>K (.val (gt cT s .i) none) x d|false=>K (gt aT (s-500) (.num .i64)) x d
def cu:Rd c Cut:=li t14 (m4 (fun b n h a=>(b,n,h,a)) (bo t44) (cN t30) (ix hT .one t58) (li t55 (aL t15)))
variable{R:List GF}
def cl(d:Nat)(g:Option GF)(l:List YO):YOp R:=match g with
 |none=>.bad none|some g=>match h:fX g.ps with| []=>.call d g [] (by rw[h];rfl) l|_::_=>.bad none
section
variable(G:List GF)(X:List (YOp R))
def oq:Nat->Rd c (YOp R)|0=>m2 .mv (dD t41) (od t30 fun _ s=>s)|1=>m2 .as (dA t36) (od t2)|2=>m4 .pick (dD t40) (od t38) (od t26) (od t27)|3=>m2 .alloc (dA t36) (ix zT [] t32)|4=>m2 .box (dD t56) (od t56)|5=>m3 .build (dD t40) (ix zT [] t32) (li t52 (m3 (fun a b e=>(a,b,e)) (nu t29) (nu t35) (od t41)))|6=>m4 .CC (dD t41) (nu t52) (ix cT .i t33) (li t52 (m2 .mk (nu t52) (od t41)))|7=>m3 .ld (dD t41) (on t10) (od t41)|8=>m3 .st (nu t18) (od t19) (od t20)|9=>m2 .chk (dD t49) (od t41)|10=>m4 (fun d b x y=>.bin d b.1 b.2 x y) (dD t40) (ix bT (.num,.add) t3) (od t56) (od t4)|11=>m3 .un (dD t49) (ix UT .not t58) (od t49)|12=>m3 .cvI (dD t40) (ix kT .i64 t57) (od t49)|13=>m3 .fa (dD t41) (nu t29) (od t34 fun _ s=>s)|14=>m4 .ia (dD t49) (ix cT .i t33) (od t56) (od t39)|15=>m3 .ext (dD t41) (od t38) (nu t57)|16=>m3 cl (dD t41) (ix (G.map some) none t52) (li t12 (od t39))|17=>m2 .len (dD t49) (od t49)|18=>m2 .lens (dD t49) (od t49)|19=>m5 .app (dD t41) (ix cT .i t33) (bo t48) (od t38) (od t49)|20=>m5 .sub (dD t49) (ix cT .i t33) (od t56) (oo t46) (oo t46)|21=>m1 .T7 (nl t51 t43 t32)|22=>m2 .Ny (dD t49) (od t49)|23=>m4 .UN (dD t40) (od t39) (oo t46) (oo t46)|_=>ix X (.bad none) t52
def oP(l:List Nat):Rd c (Nat×YOp R):=fun x d K=>nu l x d fun h x d=>oq G X h x d fun o=>K (h,o)
def oL:Nat->List Nat->Rd c (List (Option (Nat×Bool)×YOp R))|0,_=>fun x d K=>K [] x d|n+1,l=>fun x d K=>gu t50 t31 x d fun g x d=>oP G X l x d fun o x d=>oL n (gt pT o.1 t8) x d fun r=>K ((g,o.2)::r)
def rn:Nat->Nat->Rd c (Bs R)
 |0,_=>fun x d K=>K .nil x d|f+1,j=>fun x d K=>nu t22 x d fun h x d=>(match h with
  |0=>fun x d K=>K .nil x d|1=>fun x d K=>nu t23 x d fun i x d=>DG (j+i-32) fun i=>m4 (fun g s o r=>.op i g s o.2 r) (gu t50 t31) (ke t24 t34) (oP G X t25) (rn f (i+1)) x d K|2=>m2 .dr (ke t36 t35) (rn f j)|3=>m2 .nl (nl t51 t43 t53) (rn f j)|_=>m3 .both (nu t58) (rn f j) (rn f j):Rd c (Bs R)) x d K
def cd:Nat->List Nat->Rd c (GN R)
 |0,_=>fun x d K=>K .dead x d|f+1,l=>fun x d K=>nu l x d fun h x d=>(match h with
  |0=>fun x d K=>K .skip x d|1=>m2 .region (fun x d K=>nu t37 x d fun n x d=>oL G X n t1 x d K) (kk t44 [[t54,t48],[t57,t54],[t58,t51]])|2=>m2 .Tm (rn G X 900 0) (kk t44 [[t54,t48],[t57,t54],[t58,t51]])|3=>m2 .seq (cd f t0) (cd f t47)|4=>m3 .join cu (cd f t16) (cd f t47)|5=>fun x z K=>sl t43 x z fun n x z=>(kk t58 [[t58,t58],[t51,t54],[t0,t0]]) x z fun t x y=>(kk t58 [[t58,t58],[t51,t48],[t0,t0]]) x z fun e x z=>cd f t6 x y fun a x y=>DG (z / 1024*1024+y % 1024) fun z=>cd f t7 x z fun b x z=>
   DG ((y / 1024 |||z / 1024)*1024+z % 1024) fun z=>K (.cond n t e a b) x z
  |6=>m2 .block (nu t52) (cd f t17)|7=>m2 .loop cu (cd f t42)|8=>m1 .exit (nu t52)|9=>fun x d K=>K .ret x d|10=>m1 .scope (cd f t17)|11=>m2 .or (cd f t17) (cd f t17)|12=>fun x d K=>K .dead x d|_=>m2 .AWf cu (cd f t42):Rd c (GN R)) x d K
end
end
end
end Y
noncomputable section
open Y
def sB:List UInt8->Nat->Nat
 | [],a=>a|b::l,a=>DG b.toNat fun c=>DG (a*62+match Nat.blt c 58 with|true=>c-48|false=>match Nat.blt c 91 with|true=>c-55|false=>c-61) fun a=>sB l a
def sN:List String->Nat->Nat| [],a=>a|s::l,a=>DG (sB s.toByteArray.data.toList a) fun a=>sN l a
def dY{R:List GF}(n:List String)(G:List GF)(X:List (YOp R):=[]):GN R:=DG (sN n 0) fun n=>cd G X 300 t42 n 0 fun a _ _=>a
def gZ(ps:List PK)(rk:RK)(rs:List Hy)(n:List String)(G:List GF)(d:A ps->Option (Tu (rk.cs++Kw ps)))(X:List (YOp []):=[])
 (hd:∀a,(YF.mk [] ps [] rk rs (dY n G X)).run a=d a:=by intro a;kernel_rfl) (hp:ABt ps=true:=by rfl)
 (hf:([]:List Nat).map (fun n=>(([]:List GF)[n]?).map GF.x)=(fX ps).map some:=by rfl):GF:=YF.gf ⟨[],ps,[],rk,rs,dY n G X⟩ hp hf d hd
def ZH:List PK:=[.v (.l .i),.v .i]
def Cv:RK:=.ret [.i]
def B5:List Hy:=[.tmp 4]
def iN:List PK:=[.v (.l .i)]
def RW:RK:=.ret [(.l .i)]
def DM:List Hy:=[.tmp 2]
def Oq:List PK:=[.v (.st 1)]
def ASG:RK:=.ret [(.st 1)]
def ASR:List Hy:=[.cell 2 (some 9)]
def AJK:List PK:=[.v (.st 0)]
def AES:List PK:=[.v .i,.v .i,.v .i]
def CK:RK:=.ret [.b]
def N3:List Hy:=[.tmp 6]
def RU:List PK:=[.v (.st 1),.v (.st 2),.v .i]
def Py:List PK:=[.v (.st 8)]
def r8:List PK:=[.v (.st 4),.v (.st 4)]
def r9:List PK:=[.v (.l (.st 4)),.v .i]
def sA:List PK:=[.v (.l (.st 4))]
def Xm:List PK:=[.v (.st 6)]
def Xs:RK:=.ret [(.l (.st 5))]
def AET:List PK:=[.v (.st 5),.v (.st 5)]
def sC:List PK:=[.v (.st 7)]
def sD:List PK:=[.v .i,.v .i]
def sH:RK:=.ret [(.l (.st 4))]
def ASA:List PK:=[.v (.l (.st 4)),.v (.st 4)]
def AEU:List PK:=[.v (.l (.st 4)),.v (.l (.st 4))]
def ASB:List PK:=[.v (.l (.st 5)),.v (.st 5)]
def M8:List PK:=[.v (.l (.st 2)),.v .i]
def AEV:List PK:=[.v (.l (.st 5)),.v (.l (.st 5))]
def ASC:List PK:=[.v (.st 1),.v (.st 7),.v (.l (.st 2)),.v .i,.v .i]
def iO:List PK:=[.v (.st 9)]
def Lc:List PK:=[.v (.st 10)]
def N1:List PK:=[.v .i]
def Xn:List PK:=[.v (.st 11)]
def AEW:List PK:=[.v (.l .i),.v (.l .i)]
def N2:RK:=.ret [.s]
def FM:List PK:=[.v (.st 8),.v .i]
def Pz:RK:=.ret [(.st 3),.b]
def AEY:RK:=.ret [(.st 8),.b]
def iR:List Hy:=[.cell 2 (some 15),.tmp 3]
def RX:RK:=.ret [(.st 11),.b]
def Xy:List Hy:=[.cell 2 (some 23),.tmp 3]
def Xt:RK:=.ret [(.st 9)]
def iP:List PK:=[.v (.st 11),.v .i]
def ASM:List Hy:=[.cell 2 (some 26),.tmp 3]
def Xu:RK:=.ret [(.st 9),.b]
def Xz:List Hy:=[.cell 4 (some 2),.tmp 5]
def YA:List Hy:=[.cell 4 (some 23),.tmp 5]
def P0:RK:=.ret [(.st 8)]
def RV:List PK:=[.v .s]
def sI:RK:=.ret [(.l (.st 15))]
def Xo:List PK:=[.v (.st 10),.v .i]
def sE:List PK:=[.v (.st 6),.v (.st 5)]
def Xv:RK:=.ret [(.st 6),.b]
def sK:List Hy:=[.cell 4 (some 1),.tmp 5]
def sL:List Hy:=[.cell 4 (some 2)]
def Xw:RK:=.ret [(.st 8),.i,.b]
def sM:List Hy:=[.cell 2 (some 15),.tmp 3,.tmp 4]
def sO:List Hy:=[.cell 4 (some 15),.tmp 5,.tmp 6]
def iQ:List PK:=[.v (.st 8),.v (.st 0)]
def sF:List PK:=[.v (.st 2),.v .i]
def sG:List PK:=[.o (.st 8),.v (.st 2)]
def T2:List Hy:=[.cell 4 (some 15)]
def Xp:List PK:=[.v (.st 3),.v .i]
def YB:List Hy:=[.cell 4 (some 5),.tmp 5]
def ASD:List PK:=[.v (.st 8),.v .i,.v .i,.v .i,.v .i,.v .i]
def J5:RK:=.ret [(.st 8),.i]
def ASN:List Hy:=[.cell 12 (some 15),.tmp 13]
def AEZ:RK:=.ret [(.l (.st 4)),.b]
def AEa:List Hy:=[.tmp 4,.tmp 5]
def Ld:List Hy:=[.cell 4 (some 15),.tmp 5]
def ASO:List Hy:=[.cell 6 (some 15),.tmp 7]
def ASP:List Hy:=[.cell 6 (some 10),.tmp 7]
def AEX:List PK:=[.o (.st 8),.v .i]
def ASH:RK:=.ret [(.st 8),(.l .i)]
def ASI:RK:=.ret [(.st 8),.i,(.l .i)]
def ASJ:RK:=.ret [(.st 8),(.st 12)]
def ASQ:List Hy:=[.cell 4 (some 15),.cell 5 (some 2)]
def ASE:List PK:=[.v (.st 8),.v (.l (.st 0))]
def ASK:RK:=.ret [(.st 8),(.l (.st 12))]
def ASL:RK:=.ret [(.st 11),(.l (.st 12))]
def Xq:List PK:=[.b (.st 3),.p .i]
def Xx:RK:=.ret []
def Xr:List PK:=[.v (.st 9),.v .i]
def ASF:List PK:=[.v (.st 10),.v .i,.v (.st 9)]
def sJ:RK:=.ret [(.st 10)]
end
end Lv
