/- The typed machine is right about the light one. -/
import Derived.Test.YtcmjfplpdjflnaaGreatTB
set_option linter.unusedVariables false
set_option linter.unusedSimpArgs false
set_option linter.unusedSectionVars false
namespace Lv
namespace Y
open Go (IntKind BinOp UnOp)
noncomputable section
def Rd(c a:Type):Type:=Nat->Nat->(a->Nat->Nat->c)->c
section
variable{c α β γ δ ε ζ:Type}
def gt:List α->Nat->α->α| [],_,a=>a|b::_,0,_=>b|_::l,n+1,a=>gt l n a
def rdE:List Nat->Nat->Nat->(Nat->Nat->c)->c
 | [],_,_,K=>K 0 0|e::l,r,q,K=>match Nat.blt r (e % 1024+1) with|true=>DH ((e % 1024+1)*q+r) fun x=>DH (e / 1024) fun s=>K s x|false=>rdE l (r-(e % 1024+1)) q K
def nu(l:List Nat):Rd c Nat:=fun x d K=>rdE l (x % 1024) (x / 1024) fun s x=>match Nat.beq s 999 with|true=>DH (x % 1024) fun s=>DH (x / 1024) fun x=>K s x d|false=>K s x d
def stp(z v:Nat):Nat:=(z / 1024 |||1 <<< (v+512))*1024+v
def dD(l:List Nat):Rd c Nat:=fun x z K=>nu l x z fun s x z=>DH (z % 1024+s-160) fun v=>DH (stp z v) fun z=>K v x z
def dA(l:List Nat):Rd c Nat:=fun x z K=>nu l x z fun v x z=>DH (stp z v) fun z=>K v x z
def sl(l:List Nat):Rd c Nat:=fun x z K=>nu l x z fun s x z=>DH (z % 1024+160-s) fun v=>K v x z
def m1(f:α->β)(a:Rd c α):Rd c β:=fun x d K=>a x d fun u x d=>K (f u) x d
def m2(f:α->β->γ)(a:Rd c α)(b:Rd c β):Rd c γ:=fun x d K=>a x d fun u x d=>b x d fun v x d=>K (f u v) x d
def m3(f:α->β->γ->δ)(a:Rd c α)(b:Rd c β)(e:Rd c γ):Rd c δ:=fun x d K=>a x d fun u x d=>b x d fun v x d=>e x d fun w x d=>K (f u v w) x d
def m4(f:α->β->γ->δ->ε)(a:Rd c α)(b:Rd c β)(e:Rd c γ)(g:Rd c δ):Rd c ε:=fun x d K=>a x d fun u x d=>m3 (f u) b e g x d K
def m5(f:α->β->γ->δ->ε->ζ)(a:Rd c α)(b:Rd c β)(e:Rd c γ)(g:Rd c δ)(h:Rd c ε):Rd c ζ:=fun x d K=>a x d fun u x d=>m4 (f u) b e g h x d K
def rep(m:Rd c α):Nat->Rd c (List α)|0=>fun x d K=>K [] x d|n+1=>m2 .cons m (rep m n)
def li(l:List Nat)(m:Rd c α):Rd c (List α):=fun x d K=>nu l x d fun n x d=>rep m n x d K
def kd(e:List Nat):Nat->Nat->Rd c (List Nat)|0,_=>fun x d K=>K [] x d|n+1,p=>fun x d K=>nu e x d fun s x d=>DH (p+s) fun v=>kd e n v x d fun r=>K (v::r)
def ke(l e:List Nat):Rd c (List Nat):=fun x d K=>nu l x d fun n x d=>kd e n 0 x d K
def kp(t:List (List (List Nat)))(d:Nat):Nat->Nat->Nat->Nat->Nat->Nat->(List Nat->Nat->c)->c
 |0,_,_,_,_,x,K=>K [] x|f+1,i,o,w,p,x,K=>match Nat.beq (o |||w) 0 with
  |true=>K [] x|false=>DH (o / 2) fun o'=>DH (w / 2) fun w'=>DH (i+1) fun j=>match Nat.beq ((o |||w) % 2) 0 with
   |true=>kp t d f j o' w' p x K|false=>rdE (gt (gt t (match Nat.beq i d with|true=>0|false=>1+w % 2) []) p []) (x % 1024) (x / 1024) fun s x=>match s with|0=>kp t d f j o' w' 0 x K|_=>kp t d f j o' w' 1 x fun r=>K (i::r)
def bits:List Nat->Nat->Nat| [],a=>a|i::r,a=>DH (a |||1 <<< i) fun a=>bits r a
def cN(l:List Nat):Rd c Nat:=fun x z K=>nu l x z fun v x z=>DH ((z / 1024 |||1 <<< (v+512))*1024+z % 1024) fun z=>K v x z
def ix(t:List α)(a:α)(l:List Nat):Rd c α:=m1 (fun n=>gt t n a) (nu l)
def t0:List Nat:=[1809,3196,6180,2083,4119,5134,1022976]
def t1:List Nat:=[2256,1222,3267,4213,5227,6194,7206,8221,1022992,9230,10253,12298,11271,13316,14339]
def t2:List Nat:=[358,1220,13462,7306,4173,10292,5133,14346,3081,6152,1022978]
def t3:List Nat:=[526512,1023133,409746,524332,527402,525352,162842,156696,157718,150550,144403,159761,154639,158735,155663,147469,160780,146444,151563,143371,152587,141322,149514,161801,153609,148489,139272,137224,135176,537608,145415,138247,136198,142342,132100,125956,140292,124932,410628,122884,123908]
def t4:List Nat:=[2341,1258,5242,7286,94,6188,3102,1022999,14354,4110,8205,15369]
def t5:List Nat:=[165303,410905,409716,1023036,165929,411674,418825,414729,412681,415752,536584,544774]
def t6:List Nat:=[3736,244,1100,2061,1022988,8201]
def t7:List Nat:=[1972,74]
def t8:List Nat:=[671,8423,3159,1044,4105,1022976]
def t9:List Nat:=[1273,3199,13416,15458,90,7244,8249,19502,4138,16419,10263,21527,24588,2058,1022986,6150]
def t10:List Nat:=[7989,8349,13355]
def t11:List Nat:=[615,16477,3135,7209,11300,6179,24605,10267,2073,5139,27663,8202,1022979]
def t12:List Nat:=[16622,13528,179,10340,8273,17458,7199,3097,6168,1039,24589,5130,18442,1022985,14344]
def t13:List Nat:=[11572,1253,167,13390,2117,3137,8216,16403,1022994,10254,15372,14345]
def t14:List Nat:=[1617,2284,3172,91]
def t15:List Nat:=[2032,15374]
def t16:List Nat:=[513,16548,4173,1023026,1067,7201,19486,5147,11286,12302,14349,15370,18439,22535]
def t17:List Nat:=[3524,1408,6263,2103,1022985]
def t18:List Nat:=[7645,3475,1083,4137,2079,1022983]
def t19:List Nat:=[1344,15577,2154,5200,23627,10296,6178,26658,4122,9238,7190,3092]
def t20:List Nat:=[164423,1023202,183322,178197,182293,187406,185357,175117,169995,171019,184330,177162,186378,179210,195594,181257,191497]
def t21:List Nat:=[165187,164150,1023173,165979,166950,159763,145422,157710,158729]
def t22:List Nat:=[8859,1340,3104,1022981]
def t23:List Nat:=[1917,73,2073,4111,3085]
def t24:List Nat:=[33678,33828,1022992,34831,35848,29703,36869,26628,28676,37892,27652]
def t25:List Nat:=[933,1064,2072,3083,1022983,8195]
def t26:List Nat:=[527915,165331]
def t27:List Nat:=[165419,526803]
def t28:List Nat:=[282,1145,2131,3129,4152,5169,11311,6185,12327,9250,8223,7198,13340,15382,22546,14353,10253,21516,23561,24585,25605]
def t29:List Nat:=[1188,147,5245,1023059,3132,4156,7222,6196,2086,8227,9244,10263,11279,409612,13323,20489,16393,17417,12297,18440,14344,21510,24582,19460,15364,28676,23556,32771,22530,26626]
def t30:List Nat:=[7462,79,1089,2110,11324,10299,5176,8248,4150,9268,3107,12323,13343,16414,6168,14345,1022982]
def t31:List Nat:=[333,6303,9332,2156,8284,13372,1069,3109,21538,17438]
def t32:List Nat:=[164046,165069,166081,167043,168030,169031,170031,171030,1022986,172041,173064,175112,174087]
def t33:List Nat:=[215,7363,13445,16468,14419,8254,10287,15402,1050,3098,9232,5135,2061,19468,6154,11272,20485,24580,17412,1022980]
def t34:List Nat:=[4387,5268,2151,6221,7243,3141,1071,8238,1023020,9242,10260,11277,13322,12297,14343,16390,17413,15365,21508]
def t35:List Nat:=[2524,1334,3256,4117,6155,5129,1022982]
def t36:List Nat:=[168123,169105,170106,171121,167009,172125,173117,165930,174106,177177,175125,164883,1022995,176143,525325,179210]
def t37:List Nat:=[165422,166036,166998,409644,1023014,410658,167959,168980,169999,413703,175110,471046,528390,415748,524292,411652,171012]
def t38:List Nat:=[3277,2230,1205,1023108,6223,4149,8227,7194,5143,9235,14350,15371,18440,10248,13319,23559,16390,22533,24580]
def t39:List Nat:=[165474,1023059,166956,165918,170008,167957,171027,168977,173071,172045,175115,174089,178184,177159,179207,184327,158726,176134,182278,160773,183300,181252,154628,159748,157700,189444,180227,156675,161795,190467,188419,153602,185346]
def t40:List Nat:=[274,10503,13391,16461,1084,14393,17464,15393,24601,7187,11277,8202,5127,6151,19462,18438,12293,1022981,20483]
def t41:List Nat:=[164856,1022982]
def t42:List Nat:=[4076,1022994]
def t43:List Nat:=[936,1110]
def t44:List Nat:=[22108,1317,8316]
def t45:List Nat:=[165706,1023035,165906,167946,166922,171014,169990,177157,168965,172036,176132,179204,175108,181252,178179,185347,173059,174083,180226,182274,183298,186369,189441]
def t46:List Nat:=[717255,165275,1023075,410679]
def t47:List Nat:=[3499,9434,5305,4171,1084,6194,1022978]
def t48:List Nat:=[695,1351]
def t49:List Nat:=[1946,1023023,15372,9224,6152,2055,8198,20486]
def t50:List Nat:=[938,1066,2089]
def t51:List Nat:=[165883,1022979]
def t52:List Nat:=[1560,233,2154,10268,13332,3091,12305,1022990,16396,4104,6151,5126,8197]
def t53:List Nat:=[165247,166230,167058,1023029,167987,168974,169992,171016,174085,176132]
def t54:List Nat:=[1524,499,2070]
def t55:List Nat:=[1014,1032]
def t56:List Nat:=[1837,209]
def t57:List Nat:=[450,1235,2187,3139,4146,5150,6169,7181,8204,9225,10244,1022978]
def uT:List (U):=[.int .i64 (-1),.nil,.bool false,.bool true,.int .i64 1000000,.int .i64 999,.int .i64 1000008,.int .i64 1000001,.int .i64 20000,.int .i64 9999,.int .i64 2147483647,.int .i64 127,.int .i64 128,.str [],.int .i64 4294967295,.int .i64 3988292384,.int .u64 24,.int .u64 16,.int .u64 8,.int .i64 (-5),.int .u64 1,.int .u64 4294967296,.int .u64 32,.int .u64 65536,.int .u64 256,.int .i64 1048576]
def hT:List (Sh):=[.one]
def cT:List (C):=[.i,.l (.st 5),.st 7,.st 12,.l .i,.l (.st 2),.st 2,.l (.st 4),.st 4,.st 5,.l (.l (.st 5)),.l (.st 7),.l (.st 0),.st 0,.l (.st 12),.st 6,.b,.u,.l .u,.st 8,.st 9,.st 15,.l (.st 15),.st 10,.st 11,.st 13,.m]
def nT:List (List (Nat×C)):=[[(0,.i)],[(0,.st 2)],[(0,.st 4)],[(0,.st 5)],[(0,.l (.st 5))],[(5,.st 4),(6,.l (.st 5))],[(0,.st 7)],[(0,.i),(11,.st 2),(12,.st 7),(13,.i),(14,.i)],[(0,.st 0)],[(0,.i),(11,.st 2),(12,.st 7),(13,.i),(14,.i),(22,.st 0)],[(1,.i)],[(0,.st 12)],[(0,.i),(11,.st 2),(12,.st 7),(13,.i),(14,.i),(22,.st 0),(23,.st 0),(24,.st 12)],[(8,.i)],[(0,.u)],[(11,.st 2),(12,.st 7),(13,.i),(14,.i)],[(0,.st 15)],[(22,.st 0)],[(12,.st 7)],[(6,.l (.st 5))],[(0,.un 0)]]
def zT:List (List U):=[[.nil,.int .i64 0,.int .i64 0,.int .i64 0,.int .i64 0,.int .i64 0,.int .i64 0,.int .i64 0,.int .i64 0],[.int .i64 0,.int .i64 0,.int .i64 0,.int .i64 0,.int .i64 0,.int .i64 0,.int .i64 0,.int .i64 0,.int .i64 0,.int .i64 0],[.int .i64 0,.int .i64 0,.int .i64 0,.int .i64 0,.int .i64 0],[.int .i64 0,.int .i64 0,.int .i64 0,.int .i64 0],[.int .i64 0,.int .i64 0],[.nil],[.int .i64 0,.int .i64 0,.int .i64 0,.int .i64 0,.int .i64 0,.nil,.nil],[.nil,.int .i64 0,.int .i64 0,.int .i64 0,.int .i64 0,.int .i64 0,.int .i64 0,.int .i64 0,.int .i64 0,.int .i64 0,.int .i64 0,.nil,.nil,.nil,.nil],[.str [],.int .i64 0],[.str [],.int .i64 0,.str [],.int .i64 0,.str [],.int .i64 0],[.int .i64 0,.int .i64 0,.int .i64 0,.int .i64 0,.int .i64 0,.int .i64 0],[.nil,.int .i64 0,.int .i64 0,.int .i64 0,.int .i64 0,.int .i64 0,.int .i64 0,.int .i64 0,.int .i64 0,.int .i64 0,.int .i64 0,.nil,.nil,.nil,.nil,.str [],.int .i64 0,.str [],.int .i64 0,.str [],.int .i64 0,.int .i64 0,.nil],[.int .i64 0,.nil],[.nil,.int .i64 0,.int .i64 0,.int .i64 0,.int .i64 0,.int .i64 0,.int .i64 0,.int .i64 0,.int .i64 0,.int .i64 0,.int .i64 0,.nil,.nil,.nil,.nil,.str [],.int .i64 0,.str [],.int .i64 0,.str [],.int .i64 0,.int .i64 0,.nil,.nil,.nil,.int .i64 0],[.int .i64 0,.int .i64 0,.int .i64 0,.int .i64 0,.int .i64 0,.int .i64 0,.int .i64 0,.int .i64 0,.nil],[.nil,.int .i64 0,.bool false],[.int .i64 0,.str [],.int .i64 0]]
def bT:List (Cls×BinOp):=[(.num,.sub),(.num,.lss),(.num,.add),(.num,.geq),(.num,.leq),(.num,.eql),(.num,.gtr),(.num,.neq),(.num,.rem),(.num,.quo),(.agg [.i,.i,.i,.i],.neq),(.agg [.i,.i],.neq),(.agg [.i,.i,.i,.i,.i,.i],.eql),(.num,.xor),(.num,.shr),(.num,.mul),(.agg [.i,.i],.eql),(.num,.shl),(.num,.or),(.num,.and),(.sl,.eql)]
def UT:List (UnOp):=[.not]
def kT:List (IntKind):=[.u8,.i64,.u64]
def aT:List (AL):=[.val (.st 16) (some (.old 0)),.al (.cell 5 0),.num .u64,.val (.l .i) (some (.old 0)),.al (.cell 7 0)]
def pT:List (List Nat):=[t40,t44,t9,t44,t9,t9,t9,t12,t49,t9,t52,t57,t9,t10,t9,t9,t13,t40,t9,t9,t9,t22,t9,t9]
def kk(g:List Nat)(t:List (List (List Nat))):Rd c (List Nat):=fun x z K=>nu g x z fun s x z=>match s with|0=>kp t (z % 1024) 512 0 (z / 1024 % 2 ^ 512) (z / 1024 / 2 ^ 512) 1 x fun r x=>DH (bits r 0*1024+z % 1024) fun z=>K r x z|_=>ke t35 t52 x z fun r x z=>DH (bits r 0*1024+z % 1024) fun z=>K r x z
def od(l:List Nat)(q:Nat->Nat->Nat:=fun z s=>z % 1024+160-s):Rd c YO:=fun x d K=>nu l x d fun s x d=>match Nat.blt s 400 with
 |true=>DH (q d s) fun v=>K (.tmp v) x d|false=>match Nat.blt s 512 with|true=>DH (s-400) fun v=>K (.k (.int .i64 (Int.ofNat v))) x d|false=>K (.k (gt uT (s-512) .nil)) x d
def oo(l:List Nat):Rd c (Option YO):=fun x d K=>nu l x d fun s x d=>match Nat.blt s 400 with
 |true=>DH (d % 1024+160-s) fun v=>K (some (.tmp v)) x d|false=>match Nat.blt s 512 with
  |true=>DH (s-400) fun v=>K (some (.k (.int .i64 (Int.ofNat v)))) x d|false=>match Nat.blt s 700 with|true=>K (some (.k (gt uT (s-512) .nil))) x d|false=>K none x d
def on(l:List Nat):Rd c (Option Nat):=m1 (fun n=>match n with|0=>none|n+1=>some n) (nu l)
def bo(l:List Nat):Rd c Bool:=m1 (fun n=>match n with|0=>false|_=>true) (nu l)
def gu(l e:List Nat):Rd c (Option (Nat×Bool)):=fun x d K=>nu l x d fun s x d=>match s with|0=>K none x d|1=>sl e x d fun v=>K (some (v,false))|_=>sl e x d fun v=>K (some (v,true))
def nl(a b e:List Nat):Rd c (List (CC×C)):=m3 (fun k s p=>p.map fun q=>(match k with|false=>.cell s q.1|true=>.tmp s q.1,q.2)) (bo a) (sl b) (ix nT [] e)
def aL(l:List Nat):Rd c AL:=fun x d K=>nu l x d fun s x d=>match Nat.blt s 500 with|true=>K (.val (gt cT s .i) none) x d|false=>K (gt aT (s-500) (.num .i64)) x d
def cu:Rd c Cut:=li t14 (m4 (fun b n h a=>(b,n,h,a)) (bo t43) (cN t29) (ix hT .one t55) (li t15 (aL t16)))
variable{R:List GF}
def cl(d:Nat)(g:Option GF)(l:List YO):YOp R:=match g with
 |none=>.bad none|some g=>match h:fX g.ps with| []=>.call d g [] (by rw[h];rfl) l|_::_=>.bad none
section
variable(G:List GF)(X:List (YOp R))
def oq:Nat->Rd c (YOp R)|0=>m2 .mv (dD t39) (od t29 fun _ s=>s)|1=>m2 .as (dA t34) (od t3)|2=>m4 .pick (dD t51) (od t36) (od t26) (od t27)|3=>m2 .alloc (dA t34) (ix zT [] t30)|4=>m2 .box (dD t53) (od t53)|5=>m3 .build (dD t45) (ix zT [] t30) (li t57 (m3 (fun a b e=>(a,b,e)) (nu t28) (nu t49) (od t39)))|6=>m4 .B9 (dD t39) (nu t52) (ix cT .i t31) (li t52 (m2 .mk (nu t57) (od t39)))|7=>m3 .ld (dD t45) (on t11) (od t45)|8=>m3 .st (nu t19) (od t20) (od t21)|9=>m2 .chk (dD t51) (od t39)|10=>m4 (fun d b x y=>.bin d b.1 b.2 x y) (dD t45) (ix bT (.num,.add) t4) (od t53) (od t5)|11=>m3 .un (dD t51) (ix UT .not t55) (od t51)|12=>m3 .cvI (dD t45) (ix kT .i64 t54) (od t51)|13=>m3 .fa (dD t45) (nu t28) (od t38 fun _ s=>s)|14=>m4 .ia (dD t51) (ix cT .i t31) (od t53) (od t37)|15=>m3 .ext (dD t39) (od t36) (nu t54)|16=>m3 cl (dD t45) (ix (G.map some) none t57) (li t35 (od t37))|17=>m2 .len (dD t51) (od t51)|18=>m2 .lens (dD t51) (od t51)|19=>m5 .app (dD t39) (ix cT .i t31) (bo t56) (od t36) (od t51)|20=>m5 .sub (dD t51) (ix cT .i t33) (od t53) (oo t46) (oo t46)|21=>m1 .T3 (nl t48 t41 t30)|22=>m2 .Np (dD t51) (od t51)|23=>m4 .UJ (dD t45) (od t37) (oo t46) (oo t46)|_=>ix X (.bad none) t57
def oP(l:List Nat):Rd c (Nat×YOp R):=fun x d K=>nu l x d fun h x d=>oq G X h x d fun o=>K (h,o)
def oL:Nat->List Nat->Rd c (List (Option (Nat×Bool)×YOp R))|0,_=>fun x d K=>K [] x d|n+1,l=>fun x d K=>gu t50 t32 x d fun g x d=>oP G X l x d fun o x d=>oL n (gt pT o.1 t9) x d fun r=>K ((g,o.2)::r)
def rn:Nat->Nat->Rd c (Bt R)
 |0,_=>fun x d K=>K .nil x d|f+1,j=>fun x d K=>nu t23 x d fun h x d=>(match h with
  |0=>fun x d K=>K .nil x d|1=>fun x d K=>nu t24 x d fun i x d=>DH (j+i-32) fun i=>m4 (fun g s o r=>.op i g s o.2 r) (gu t50 t32) (ke t25 t38) (oP G X t33) (rn f (i+1)) x d K|2=>m2 .dr (ke t34 t49) (rn f j)|3=>m2 .nl (nl t43 t41 t40) (rn f j)|_=>m3 .both (nu t55) (rn f j) (rn f j):Rd c (Bt R)) x d K
def cd:Nat->List Nat->Rd c (GI R)
 |0,_=>fun x d K=>K .dead x d|f+1,l=>fun x d K=>nu l x d fun h x d=>(match h with
  |0=>fun x d K=>K .skip x d|1=>m2 .region (fun x d K=>nu t1 x d fun n x d=>oL G X n t2 x d K) (kk t43 [[t56,t7],[t54,t56],[t55,t48]])|2=>m2 .Ta (rn G X 900 0) (kk t43 [[t56,t7],[t54,t56],[t55,t48]])|3=>m2 .seq (cd f t0) (cd f t47)|4=>m3 .join cu (cd f t17) (cd f t47)|5=>fun x z K=>sl t41 x z fun n x z=>(kk t55 [[t55,t55],[t48,t56],[t0,t0]]) x z fun t x y=>(kk t55 [[t55,t55],[t48,t56],[t0,t0]]) x z fun e x z=>cd f t6 x y fun a x y=>DH (z / 1024*1024+y % 1024) fun z=>cd f t8 x z fun b x z=>
   DH ((y / 1024 |||z / 1024)*1024+z % 1024) fun z=>K (.cond n t e a b) x z
  |6=>m2 .block (nu t57) (cd f t18)|7=>m2 .loop cu (cd f t42)|8=>m1 .exit (nu t57)|9=>fun x d K=>K .ret x d|10=>m1 .scope (cd f t18)|11=>m2 .or (cd f t18) (cd f t18)|12=>fun x d K=>K .dead x d|_=>m2 .AXH cu (cd f t42):Rd c (GI R)) x d K
end
end
end
end Y
noncomputable section
open Y
def sB:List UInt8->Nat->Nat
 | [],a=>a|b::l,a=>DH b.toNat fun c=>DH (a*62+match Nat.blt c 58 with|true=>c-48|false=>match Nat.blt c 91 with|true=>c-55|false=>c-61) fun a=>sB l a
def sN:List String->Nat->Nat| [],a=>a|s::l,a=>DH (sB s.toByteArray.data.toList a) fun a=>sN l a
def dY{R:List GF}(n:List String)(G:List GF)(X:List (YOp R):=[]):GI R:=DH (sN n 0) fun n=>cd G X 300 t42 n 0 fun a _ _=>a
def gZ(ps:List PK)(rk:RK)(rs:List HM)(n:List String)(G:List GF)(d:A ps->Option (Tu (rk.cs++Kn ps)))(X:List (YOp []):=[])
 (hd:∀a,(YF.mk [] ps [] rk rs (dY n G X)).run a=d a:=by intro a;kernel_rfl) (hp:ACB ps=true:=by rfl)
 (hf:([]:List Nat).map (fun n=>(([]:List GF)[n]?).map GF.x)=(fX ps).map some:=by rfl):GF:=YF.gf ⟨[],ps,[],rk,rs,dY n G X⟩ hp hf d hd
def ZR:List PK:=[.v (.l .i),.v .i]
def CZ:RK:=.ret [.i]
def Bw:List HM:=[.tmp 4]
def QO:List PK:=[.v (.l (.st 2)),.v .i]
def ABS:List PK:=[.v (.l (.st 4)),.v .i]
def AYU:List PK:=[.v (.l (.l (.st 5))),.v .i]
def ASo:List PK:=[.v (.st 6),.v .i]
def HH:List PK:=[.v (.st 8),.v .i]
def jF:List PK:=[.v (.st 9),.v .i]
def jG:List PK:=[.v (.st 10),.v .i]
def Xr:List PK:=[.v (.st 11),.v .i]
def Tq:List PK:=[.v (.l .i)]
def M1:RK:=.ret [(.l .i)]
def Ca:List HM:=[.tmp 2]
def Tr:List PK:=[.v (.st 1)]
def AEx:RK:=.ret [(.st 1)]
def AE4:List HM:=[.cell 2 (some 9)]
def AEy:RK:=.ret [(.l (.st 2))]
def jC:List PK:=[.v (.l (.st 4))]
def jH:RK:=.ret [(.l (.st 4))]
def jJ:List HM:=[.cell 2 (some 2)]
def AEq:List PK:=[.v (.l (.st 5))]
def Tv:RK:=.ret [(.l (.st 5))]
def Ts:List PK:=[.v (.st 6)]
def AEz:RK:=.ret [(.st 6)]
def AE5:List HM:=[.cell 2 (some 1)]
def jD:List PK:=[.v (.st 7)]
def AE0:RK:=.ret [(.st 7)]
def AE6:List HM:=[.cell 2 (some 7)]
def Ns:List PK:=[.v (.st 8)]
def Nt:RK:=.ret [(.st 8)]
def Xs:List PK:=[.v (.st 9)]
def Tw:RK:=.ret [(.st 9)]
def Kg:List PK:=[.v (.st 10)]
def jI:RK:=.ret [(.st 10)]
def sU:List PK:=[.v (.st 0)]
def AE1:RK:=.ret [(.l (.st 0))]
def Tt:List PK:=[.v (.st 11)]
def AE2:RK:=.ret [(.st 11)]
def AE7:List HM:=[.cell 2 (some 23)]
def AEr:List PK:=[.v .i,.v .i,.v .i]
def CI:RK:=.ret [.b]
def Nv:List HM:=[.tmp 6]
def RJ:List PK:=[.v (.st 1),.v (.st 2),.v .i]
def sV:List PK:=[.v (.st 4),.v (.st 4)]
def AEs:List PK:=[.v (.st 5),.v (.st 5)]
def sW:List PK:=[.v .i,.v .i]
def ASl:List PK:=[.v (.l (.st 4)),.v (.st 4)]
def AEt:List PK:=[.v (.l (.st 4)),.v (.l (.st 4))]
def ASm:List PK:=[.v (.l (.st 5)),.v (.st 5)]
def AEu:List PK:=[.v (.l (.st 5)),.v (.l (.st 5))]
def ASn:List PK:=[.v (.st 1),.v (.st 7),.v (.l (.st 2)),.v .i,.v .i]
def Xt:List PK:=[.v .i]
def AEv:List PK:=[.v (.l .i),.v (.l .i)]
def Nu:RK:=.ret [.s]
def Xw:RK:=.ret [(.st 9),.b]
def YB:List HM:=[.cell 4 (some 2),.tmp 5]
def YC:List HM:=[.cell 4 (some 23),.tmp 5]
def RL:List PK:=[.v .s]
def sa:RK:=.ret [(.l (.st 15))]
def sX:List PK:=[.v (.st 6),.v (.st 5)]
def Xx:RK:=.ret [(.st 6),.b]
def sb:List HM:=[.cell 4 (some 1),.tmp 5]
def AE8:List HM:=[.cell 2 (some 15),.tmp 3]
def sd:List HM:=[.cell 4 (some 2)]
def Xy:RK:=.ret [(.st 8),.i,.b]
def se:List HM:=[.cell 2 (some 15),.tmp 3,.tmp 4]
def sg:List HM:=[.cell 4 (some 15),.tmp 5,.tmp 6]
def jE:List PK:=[.v (.st 8),.v (.st 0)]
def sY:List PK:=[.v (.st 2),.v .i]
def sZ:List PK:=[.o (.st 8),.v (.st 2)]
def Ty:List HM:=[.cell 4 (some 15)]
def Tx:RK:=.ret [(.st 3),.b]
def Xu:List PK:=[.v (.st 3),.v .i]
def YD:List HM:=[.cell 4 (some 5),.tmp 5]
def ASp:List PK:=[.v (.st 8),.v .i,.v .i,.v .i,.v .i,.v .i]
def Jx:RK:=.ret [(.st 8),.i]
def ASx:List HM:=[.cell 12 (some 15),.tmp 13]
def AE3:RK:=.ret [(.l (.st 4)),.b]
def AE9:List HM:=[.tmp 4,.tmp 5]
def LY:List HM:=[.cell 4 (some 15),.tmp 5]
def ASy:List HM:=[.cell 6 (some 15),.tmp 7]
def ASz:List HM:=[.cell 6 (some 10),.tmp 7]
def AEw:List PK:=[.o (.st 8),.v .i]
def ASs:RK:=.ret [(.st 8),(.l .i)]
def ASt:RK:=.ret [(.st 8),.i,(.l .i)]
def ASu:RK:=.ret [(.st 8),(.st 12)]
def AS0:List HM:=[.cell 4 (some 15),.cell 5 (some 2)]
def ASq:List PK:=[.v (.st 8),.v (.l (.st 0))]
def ASv:RK:=.ret [(.st 8),(.l (.st 12))]
def ASw:RK:=.ret [(.st 11),(.l (.st 12))]
def si:List HM:=[.cell 2 (some 23),.tmp 3]
def Xv:List PK:=[.b (.st 3),.p .i]
def Xz:RK:=.ret []
def ASr:List PK:=[.v (.st 10),.v .i,.v (.st 9)]
def YA:RK:=.ret [(.st 11),.b]
end
end Lv
