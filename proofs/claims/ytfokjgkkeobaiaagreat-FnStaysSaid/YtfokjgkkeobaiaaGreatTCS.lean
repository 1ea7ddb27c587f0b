/- The typed machine is right about the light one. -/
import Derived.Test.YtfokjgkkeobaiaaGreatTBS
set_option linter.all false
namespace Lv
namespace Y
open Go (IntKind BinOp UnOp)
noncomputable section
def Rd(c a:Type):Type:=Nat->Nat->(a->Nat->Nat->c)->c
section
variable{c α β γ δ ε ζ:Type}
def gt:List α->Nat->α->α| [],_,a=>a|b::_,0,_=>b|_::l,n+1,a=>gt l n a
def rdE:List Nat->Nat->Nat->(Nat->Nat->c)->c
 | [],_,_,K=>K 0 0|e::l,r,q,K=>match Nat.blt r (e % 1024+1) with|true=>Db ((e % 1024+1)*q+r) λx=>Db (e / 1024) λs=>K s x|false=>rdE l (r-(e % 1024+1)) q K
def nu(l:List Nat):Rd c Nat:=λx d K=>rdE l (x % 1024) (x / 1024) λs x=>match Nat.beq s 999 with|true=>Db (x % 1024) λs=>Db (x / 1024) λx=>K s x d|false=>K s x d
def stp(z v:Nat):Nat:=(z / 1024 |||1 <<< (v+512))*1024+v
def dD(l:List Nat):Rd c Nat:=λx z K=>nu l x z λs x z=>Db (z % 1024+s-160) λv=>Db (stp z v) λz=>K v x z
def dA(l:List Nat):Rd c Nat:=λx z K=>nu l x z λv x z=>Db (stp z v) λz=>K v x z
def sl(l:List Nat):Rd c Nat:=λx z K=>nu l x z λs x z=>Db (z % 1024+160-s) λv=>K v x z
def m1(f:α->β)(a:Rd c α):Rd c β:=λx d K=>a x d λu x d=>K (f u) x d
def m2(f:α->β->γ)(a:Rd c α)(b:Rd c β):Rd c γ:=λx d K=>a x d λu x d=>b x d λv x d=>K (f u v) x d
def m3(f:α->β->γ->δ)(a:Rd c α)(b:Rd c β)(e:Rd c γ):Rd c δ:=λx d K=>a x d λu x d=>b x d λv x d=>e x d λw x d=>K (f u v w) x d
def m4(f:α->β->γ->δ->ε)(a:Rd c α)(b:Rd c β)(e:Rd c γ)(g:Rd c δ):Rd c ε:=λx d K=>a x d λu x d=>m3 (f u) b e g x d K
def m5(f:α->β->γ->δ->ε->ζ)(a:Rd c α)(b:Rd c β)(e:Rd c γ)(g:Rd c δ)(h:Rd c ε):Rd c ζ:=λx d K=>a x d λu x d=>m4 (f u) b e g h x d K
def rep(m:Rd c α):Nat->Rd c (List α)|0=>λx d K=>K [] x d|n+1=>m2 .cons m (rep m n)
def li(l:List Nat)(m:Rd c α):Rd c (List α):=λx d K=>nu l x d λn x d=>rep m n x d K
def kd(e:List Nat):Nat->Nat->Rd c (List Nat)|0,_=>λx d K=>K [] x d|n+1,p=>λx d K=>nu e x d λs x d=>Db (p+s) λv=>kd e n v x d λr=>K (v::r)
def ke(l e:List Nat):Rd c (List Nat):=λx d K=>nu l x d λn x d=>kd e n 0 x d K
def kp(t:List (List (List Nat)))(d:Nat):Nat->Nat->Nat->Nat->Nat->Nat->(List Nat->Nat->c)->c
 |0,_,_,_,_,x,K=>K [] x|f+1,i,o,w,p,x,K=>match Nat.beq (o |||w) 0 with
  |true=>K [] x|false=>Db (o / 2) λo'=>Db (w / 2) λw'=>Db (i+1) λj=>match Nat.beq ((o |||w) % 2) 0 with
   |true=>kp t d f j o' w' p x K|false=>rdE (gt (gt t (match Nat.beq i d with|true=>0|false=>1+w % 2) []) p []) (x % 1024) (x / 1024) λs x=>match s with|0=>kp t d f j o' w' 0 x K|_=>kp t d f j o' w' 1 x λr=>K (i::r)
def bits:List Nat->Nat->Nat| [],a=>a|i::r,a=>Db (a |||1 <<< i) λa=>bits r a
def cN(l:List Nat):Rd c Nat:=λx z K=>nu l x z λv x z=>Db ((z / 1024 |||1 <<< (v+512))*1024+z % 1024) λz=>K v x z
def ix(t:List α)(a:α)(l:List Nat):Rd c α:=m1 (λn=>gt t n a) (nu l)
def t0:List Nat:=[1806,3173,2094,6183,4126,5139,1022976]
def t1:List Nat:=[350,7340,1181,13434,4178,10314,5142,14349,6155,3080,1022978]
def t2:List Nat:=[1023164,524466,409740,539695,543789,162855,150549,158741,159762,157714,160783,155663,147470,151566,154638,153613,144397,146444,161804,156684,149514,148490,540682,549898,135177,152585,139273,143369,145416,138248,137224,141320,136200,142343,140294,133125,123908]
def t3:List Nat:=[165311,410871,409688,1023046,165937,411679,418828,412683,414731,415755,548873,413705,417800,561159]
def t4:List Nat:=[1669,2279,98,3118]
def t5:List Nat:=[2029,15377]
def t6:List Nat:=[453,1233,12376,1023039,7211,6186,11291,512014,18446,19469,4107,13320,16392,21512,25608]
def t7:List Nat:=[7640,3493,1076,2084,4126,1022983]
def t8:List Nat:=[165389,540145]
def t9:List Nat:=[524813,165361]
def t10:List Nat:=[3665,272,1132,2066,8203,4106,1022981]
def t11:List Nat:=[602,8442,3197,1051,4109,1022977]
def t12:List Nat:=[1256,3207,112,15471,7239,13377,8249,19507,4133,21540,16420,10263,1022989,24588,2059,6150]
def t13:List Nat:=[596,16485,3131,6183,7207,11301,10274,2078,24605,5138,8206,27660,1022979]
def t14:List Nat:=[16640,13505,142,10338,8276,17472,7203,3103,6173,1042,24593,5133,18442,14344,19461,1022981]
def t15:List Nat:=[8018,8311,13364]
def t16:List Nat:=[1264,15598,2150,5211,23635,10295,6194,26670,7199,9246,4121,3093]
def t17:List Nat:=[164369,1023195,183323,182295,178197,175125,187408,185358,177165,174092,186380,195596,171020,169994,179210,219145,191497,184329,162825,176136,200712]
def t18:List Nat:=[164197,165125,1023119,165956,166945,159763,158736,157712,145422,153610,160777,149513,154633,151561,156681,150536,144392,168968]
def t19:List Nat:=[1921,72,2072,4110,3084]
def t20:List Nat:=[33679,33826,1022993,34832,35848,36871,29703,28676,26627,27651,37891]
def t21:List Nat:=[930,1067,2073,3083,1022982,8195]
def t22:List Nat:=[210,7365,13446,16473,14417,8252,10291,15396,1050,3097,5139,9232,2063,19468,6153,11271,20486,24580,1022980,17411]
def t23:List Nat:=[11565,218,1183,2144,3139,13361,10272,1023005,8218,16407,15373]
def t24:List Nat:=[8849,1334,3109,1022992]
def t25:List Nat:=[164044,165069,166078,167050,168042,169024,170026,171029,172042,173065,1022984,175111,174087]
def t26:List Nat:=[381,9360,5232,8285,10323,14386,2085,15396,6180,20514,1022983]
def t27:List Nat:=[285,1140,2127,4157,3126,11316,5169,12329,6184,9248,8220,13340,7195,15384,14355,22544,10255,21518,23563,24584,1022980]
def t28:List Nat:=[168120,170135,169099,167028,171109,172120,173110,165928,177176,174103,175125,164881,1022993,176141,543755,179209]
def t29:List Nat:=[913,2105,1075]
def t30:List Nat:=[1355,2235,10372,117,11323,12345,13335,9237,5136,1022992,16398,7179,8203,3080,6150]
def t31:List Nat:=[165235,166217,167038,167997,1023034,168981,169995,410632,174087,176133,171013,178181,173060]
def t32:List Nat:=[119,3162,1023065,4182,5204,1103,6204,2105,7223,9258,8229,10268,11284,13327,409612,18444,16395,17419,20490,14345,12297,15368,24583,21510,19462,23558,22532,31747,28675,25603,58371,30722,26626,27650]
def t33:List Nat:=[165643,1023045,165915,166930,167949,169992,168967,175110,171014,172037,173061,174084,179204,177156,181252,178180,176132,185347,161795,182275,183298,189442,160770,180226,157698,184322,188418,186370,158721,159745]
def t34:List Nat:=[4073,1022997]
def t35:List Nat:=[164855,1022983]
def t36:List Nat:=[3480,9427,5306,4181,1091,6201,1022979]
def t37:List Nat:=[1924,122]
def t38:List Nat:=[919,1127]
def t39:List Nat:=[717262,165286,1023064,410672]
def t40:List Nat:=[165387,165972,166991,168994,1023009,167969,410656,409631,170010,171030,173068,413704,175112,174088,177159,540678,172038,415750,178182,412677,176133,411653,414724,471044,541700,181251,179203]
def t41:List Nat:=[1836,210]
def t42:List Nat:=[1951,1023020,15372,9224,6152,2055,8197,20485]
def t43:List Nat:=[165880,165893,1022976]
def t44:List Nat:=[2263,3265,1207,4196,5184,6208,1023027,7205,8229,9233,12299,10250,14344,11271,13317,15363,16386]
def t45:List Nat:=[4281,5296,2158,6237,3151,7245,8239,9259,1023019,10273,13343,12308,11280,14348,16396,1034,17413,20485,15364,21507]
def t46:List Nat:=[22109,1312,8320]
def t47:List Nat:=[1553,317,2145,3098,1022987,4106,5126,8198,10246,6150]
def t48:List Nat:=[641,1405]
def t49:List Nat:=[1013,1033]
def t50:List Nat:=[263,10472,13430,16468,1076,17459,15406,14373,24602,11283,7185,8205,5131,6154,1022986,19464,18437,20484]
def t51:List Nat:=[1391,2391,3326,6187,4103,1022980]
def t52:List Nat:=[440,1229,2202,3136,4146,5149,6172,7182,8204,9225,10244,1022979]
def uT:List (U):=[.bool false,.int .i64 1048576,.np,.int .i64 28285,.int .i64 4000,.int .i64 131,.int .i64 1073741823,.int .i64 6364136223846793005,.int .i64 1442695040888963407,.int .u64 33,.int .u64 45,.int .i64 255,.int .i64 256,.int .i64 16777216,.int .i64 65536,.bool true,.int .i64 (-1),.int .i64 1000000,.int .i64 999,.nil,.int .i64 1000008,.int .i64 1000001,.int .i64 2147483647,.int .i64 127,.int .i64 128,.str [],.int .i64 4294967295,.int .i64 3988292384,.int .u64 24,.int .u64 16,.int .u64 8,.int .i64 9223372036854775807,.int .i64 (-9223372036854775808),.int .i64 20000,.int .i64 9999,.int .i64 (-5),.int .u64 1,.int .u64 4294967296,.int .u64 32,.int .u64 65536,.int .u64 256]
def hT:List (Sh):=[.one]
def cT:List (C):=[.i,.b,.u,.st 1,.st 6,.st 5,.l (.st 5),.st 8,.st 7,.st 2,.st 4,.l (.st 4),.l .i,.l .u,.st 0,.st 12,.l (.st 12),.st 9,.l (.st 2),.l (.st 7),.st 15,.l (.st 15),.st 10,.st 11,.l (.st 0),.st 13,.l (.st 14),.st 14,.m]
def nT:List (List (Nat×C)):=[[(0,.i)],[(0,.l (.st 5))],[(5,.st 4),(6,.l (.st 5))],[(5,.st 4)],[(0,.i),(11,.st 2),(12,.st 7),(13,.i),(14,.i)],[(11,.st 2),(12,.st 7),(13,.i),(14,.i)],[(0,.st 5)],[(0,.st 4)],[(0,.u)],[(0,.i),(11,.st 2),(12,.st 7),(13,.i),(14,.i),(22,.st 0)],[(22,.st 0)],[(0,.i),(11,.st 2),(12,.st 7),(13,.i),(14,.i),(22,.st 0),(23,.st 0),(24,.st 12)],[(23,.st 0),(24,.st 12)],[(0,.st 12)],[(0,.st 2)],[(1,.i)],[(0,.st 15)],[(0,.st 0)],[(0,.st 14)],[(8,.i)],[(6,.l (.st 5))],[(12,.st 7)],[(0,.un 0)],[(0,.un 0),(11,.un 0),(12,.un 0),(13,.un 0),(14,.un 0),(22,.un 0),(23,.un 0),(24,.un 0)]]
def zT:List (List U):=[[.nil,.int .i64 0,.int .i64 0],[.nil,.int .i64 0,.int .i64 0,.int .i64 0,.int .i64 0,.int .i64 0,.int .i64 0,.int .i64 0,.int .i64 0],[.int .i64 0,.int .i64 0,.int .i64 0,.int .i64 0,.int .i64 0],[.nil],[.int .i64 0,.int .i64 0,.int .i64 0,.int .i64 0,.int .i64 0,.nil,.nil],[.nil,.int .i64 0,.int .i64 0,.int .i64 0,.int .i64 0,.int .i64 0,.int .i64 0,.int .i64 0,.int .i64 0,.int .i64 0,.int .i64 0,.nil,.nil,.nil,.nil],[.int .i64 0,.int .i64 0,.int .i64 0,.int .i64 0,.int .i64 0,.int .i64 0,.int .i64 0,.int .i64 0,.int .i64 0,.int .i64 0],[.int .i64 0,.int .i64 0,.int .i64 0,.int .i64 0],[.int .i64 0,.int .i64 0],[.nil,.int .i64 0,.int .i64 0,.int .i64 0,.int .i64 0,.int .i64 0,.int .i64 0,.int .i64 0,.int .i64 0,.int .i64 0,.int .i64 0,.nil,.nil,.nil,.nil,.str [],.int .i64 0,.str [],.int .i64 0,.str [],.int .i64 0,.int .i64 0,.nil],[.str [],.int .i64 0],[.str [],.int .i64 0,.str [],.int .i64 0,.str [],.int .i64 0],[.nil,.int .i64 0,.int .i64 0,.int .i64 0,.int .i64 0,.int .i64 0,.int .i64 0,.int .i64 0,.int .i64 0,.int .i64 0,.int .i64 0,.nil,.nil,.nil,.nil,.str [],.int .i64 0,.str [],.int .i64 0,.str [],.int .i64 0,.int .i64 0,.nil,.nil,.nil,.int .i64 0],[.int .i64 0,.int .i64 0,.int .i64 0,.int .i64 0,.int .i64 0,.int .i64 0],[.int .i64 0,.nil],[.nil,.int .i64 0,.bool false],[.int .i64 0,.str [],.int .i64 0],[.int .i64 0,.int .i64 0,.int .i64 0,.int .i64 0,.int .i64 0,.int .i64 0,.int .i64 0,.int .i64 0,.nil]]
def bT:List (Cls×BinOp):=[(.num,.gtr),(.num,.add),(.num,.lss),(.num,.mul),(.num,.and),(.num,.shr),(.num,.xor),(.num,.leq),(.num,.rem),(.num,.geq),(.num,.eql),(.num,.sub),(.num,.neq),(.num,.quo),(.agg [.i,.i,.i,.i],.neq),(.agg [.i,.i],.neq),(.agg [.i,.i,.i,.i,.i,.i],.eql),(.agg [.i,.i],.eql),(.num,.shl),(.num,.or),(.sl,.eql),(.agg [.i,.i,.i,.i,.i,.i,.i,.i,.i,.i],.neq),(.agg [.i,.i,.i,.i,.i],.eql),(.agg [.i,.i,.i,.i,.i,.i],.neq),(.bool,.neq)]
def UT:List (UnOp):=[.not]
def kT:List (IntKind):=[.i64,.u8,.u64]
def aT:List (AL):=[.val (.st 17) (some (.old 0)),.val (.st 16) (some (.old 0)),.al (.cell 5 0),.num .u64,.val (.l .i) (some (.old 0)),.al (.cell 7 0)]
def pT:List (List Nat):=[t50,t46,t12,t46,t12,t12,t12,t14,t42,t12,t30,t52,t12,t15,t12,t12,t23,t50,t12,t12,t12,t24,t12,t12]
def kk(g:List Nat)(t:List (List (List Nat))):Rd c (List Nat):=λx z K=>nu g x z λs x z=>match s with|0=>kp t (z % 1024) 512 0 (z / 1024 % 2 ^ 512) (z / 1024 / 2 ^ 512) 1 x λr x=>Db (bits r 0*1024+z % 1024) λz=>K r x z|_=>ke t44 t47 x z λr x z=>Db (bits r 0*1024+z % 1024) λz=>K r x z
def od(l:List Nat)(q:Nat->Nat->Nat:=λz s=>z % 1024+160-s):Rd c YO:=λx d K=>nu l x d λs x d=>match Nat.blt s 400 with
 |true=>Db (q d s) λv=>K (.tmp v) x d|false=>match Nat.blt s 512 with|true=>Db (s-400) λv=>K (.k (.int .i64 (Int.ofNat v))) x d|false=>K (.k (gt uT (s-512) .nil)) x d
def oo(l:List Nat):Rd c (Option YO):=λx d K=>nu l x d λs x d=>match Nat.blt s 400 with
 |true=>Db (d % 1024+160-s) λv=>K (some (.tmp v)) x d|false=>match Nat.blt s 512 with
  |true=>Db (s-400) λv=>K (some (.k (.int .i64 (Int.ofNat v)))) x d|false=>match Nat.blt s 700 with|true=>K (some (.k (gt uT (s-512) .nil))) x d|false=>K none x d
def on(l:List Nat):Rd c (Option Nat):=m1 (λn=>match n with|0=>none|n+1=>some n) (nu l)
def bo(l:List Nat):Rd c Bool:=m1 (λn=>match n with|0=>false|_=>true) (nu l)
def gu(l e:List Nat):Rd c (Option (Nat×Bool)):=λx d K=>nu l x d λs x d=>match s with|0=>K none x d|1=>sl e x d λv=>K (some (v,false))|_=>sl e x d λv=>K (some (v,true))
def nl(a b e:List Nat):Rd c (List (CL×C)):=m3 (λk s p=>p.map λq=>(match k with|false=>.cell s q.1|true=>.tmp s q.1,q.2)) (bo a) (sl b) (ix nT [] e)
def aL(l:List Nat):Rd c AL:=λx d K=>nu l x d λs x d=>match Nat.blt s 500 with|true=>K (.val (gt cT s .i) none) x d|false=>K (gt aT (s-500) (.num .i64)) x d
def cu:Rd c Cut:=li t4 (m4 (λb n h a=>(b,n,h,a)) (bo t38) (cN t32) (ix hT .one t49) (li t5 (aL t6)))
variable{R:List GF}
def cl(d:Nat)(g:Option GF)(l:List YO):YOp R:=match g with
 |none=>.bad none|some g=>match h:fX g.ps with| []=>.call d g [] (by rw[h];rfl) l|_::_=>.bad none
section
variable(G:List GF)(X:List (YOp R))
def oq:Nat->Rd c (YOp R)|0=>m2 .mv (dD t33) (od t32 λ_ s=>s)|1=>m2 .as (dA t45) (od t2)|2=>m4 .pick (dD t43) (od t28) (od t8) (od t9)|3=>m2 .alloc (dA t45) (ix zT [] t45)|4=>m2 .box (dD t31) (od t31)|5=>m3 .build (dD t33) (ix zT [] t45) (li t52 (m3 (λa b e=>(a,b,e)) (nu t27) (nu t42) (od t40)))|6=>m4 .CC (dD t33) (nu t47) (ix cT .i t26) (li t47 (m2 .mk (nu t52) (od t40)))|7=>m3 .ld (dD t33) (on t13) (od t33)|8=>m3 .st (nu t16) (od t17) (od t18)|9=>m2 .chk (dD t43) (od t40)|10=>m4 (λd b x y=>.bin d b.1 b.2 x y) (dD t33) (ix bT (.num,.add) t30) (od t31) (od t3)|11=>m3 .un (dD t43) (ix UT .not t49) (od t43)|12=>m3 .cvI (dD t43) (ix kT .i64 t47) (od t43)|13=>m3 .fa (dD t33) (nu t27) (od t44 λ_ s=>s)|14=>m4 .ia (dD t43) (ix cT .i t26) (od t31) (od t40)|15=>m3 .ext (dD t40) (od t28) (nu t47)|16=>m3 cl (dD t33) (ix (G.map some) none t52) (li t51 (od t40))|17=>m2 .len (dD t43) (od t43)|18=>m2 .lens (dD t43) (od t43)|19=>m5 .app (dD t33) (ix cT .i t26) (bo t37) (od t28) (od t43)|20=>m5 .sub (dD t43) (ix cT .i t26) (od t31) (oo t39) (oo t39)|21=>m1 .Qn (nl t48 t35 t32)|22=>m2 .Pk (dD t43) (od t43)|23=>m4 .WK (dD t43) (od t40) (oo t39) (oo t39)|_=>ix X (.bad none) t52
def oP(l:List Nat):Rd c (Nat×YOp R):=λx d K=>nu l x d λh x d=>oq G X h x d λo=>K (h,o)
def oL:Nat->List Nat->Rd c (List (Option (Nat×Bool)×YOp R))|0,_=>λx d K=>K [] x d|n+1,l=>λx d K=>gu t29 t25 x d λg x d=>oP G X l x d λo x d=>oL n (gt pT o.1 t12) x d λr=>K ((g,o.2)::r)
def rn:Nat->Nat->Rd c (B4 R)
 |0,_=>λx d K=>K .nil x d|f+1,j=>λx d K=>nu t19 x d λh x d=>(match h with
  |0=>λx d K=>K .nil x d|1=>λx d K=>nu t20 x d λi x d=>Db (j+i-32) λi=>m4 (λg s o r=>.op i g s o.2 r) (gu t29 t25) (ke t21 t32) (oP G X t22) (rn f (i+1)) x d K|2=>m2 .dr (ke t45 t42) (rn f j)|3=>m2 .nl (nl t38 t35 t27) (rn f j)|_=>m3 .both (nu t49) (rn f j) (rn f j):Rd c (B4 R)) x d K
def cd:Nat->List Nat->Rd c (HG R)
 |0,_=>λx d K=>K .dead x d|f+1,l=>λx d K=>nu l x d λh x d=>(match h with
  |0=>λx d K=>K .skip x d|1=>m2 .region (λx d K=>nu t44 x d λn x d=>oL G X n t1 x d K) (kk t38 [[t41,t37],[t48,t41],[t49,t48]])|2=>m2 .Vi (rn G X 900 0) (kk t38 [[t41,t37],[t48,t41],[t49,t48]])|3=>m2 .seq (cd f t0) (cd f t36)|4=>m3 .join cu (cd f t51) (cd f t36)|5=>λx z K=>sl t35 x z λn x z=>(kk t49 [[t49,t49],[t48,t41],[t0,t0]]) x z λt x y=>(kk t49 [[t49,t49],[t48,t37],[t0,t0]]) x z λe x z=>cd f t10 x y λa x y=>Db (z / 1024*1024+y % 1024) λz=>cd f t11 x z λb x z=>
   Db ((y / 1024 |||z / 1024)*1024+z % 1024) λz=>K (.cond n t e a b) x z
  |6=>m2 .block (nu t52) (cd f t7)|7=>m2 .loop cu (cd f t34)|8=>m1 .exit (nu t52)|9=>λx d K=>K .ret x d|10=>m1 .scope (cd f t7)|11=>m2 .or (cd f t7) (cd f t7)|12=>λx d K=>K .dead x d|_=>m2 .AUN cu (cd f t34):Rd c (HG R)) x d K
end
end
end
end Y
noncomputable section
open Y
def sB:List UInt8->Nat->Nat
 | [],a=>a|b::l,a=>Db b.toNat λc=>Db (a*62+match Nat.blt c 58 with|true=>c-48|false=>match Nat.blt c 91 with|true=>c-55|false=>c-61) λa=>sB l a
def sN:List String->Nat->Nat| [],a=>a|s::l,a=>Db (sB s.toByteArray.data.toList a) λa=>sN l a
def dY{R:List GF}(n:List String)(G:List GF)(X:List (YOp R):=[]):HG R:=Db (sN n 0) λn=>cd G X 300 t34 n 0 λa _ _=>a
def gZ(ps:List PK)(rk:RK)(rs:List IP)(n:List String)(G:List GF)(d:A ps->Option (Tu (rk.cs++MN ps)))(X:List (YOp []):=[])
 (hd:∀a,(YF.mk [] ps [] rk rs (dY n G X)).run a=d a:=by intro a;kernel_rfl) (hp:AEH ps=true:=by rfl)
 (hf:([]:List Nat).map (λn=>(([]:List GF)[n]?).map GF.x)=(fX ps).map some:=by rfl):GF:=YF.gf ⟨[],ps,[],rk,rs,dY n G X⟩ hp hf d hd
def ATA:List PK:=[.v .i,.v .i,.v .i]
def C6:RK:=.ret [.b]
def Tc:List IP:=[.tmp 6]
def SY:List PK:=[.v (.st 1)]
def DZ:List IP:=[.tmp 2]
def cB:List PK:=[.v (.st 1),.v (.st 2),.v .i]
def YB:List PK:=[.v (.st 8)]
def sH:List PK:=[.v (.l .i),.v .i]
def Cm:List IP:=[.tmp 4]
def ATK:List PK:=[.v (.st 4),.v (.st 4)]
def AGn:List PK:=[.v (.l (.st 4)),.v .i]
def DQ:RK:=.ret [.i]
def xB:List PK:=[.v (.l (.st 4))]
def Zq:List PK:=[.v (.st 6)]
def Zz:RK:=.ret [(.l (.st 5))]
def xC:List PK:=[.v (.st 7)]
def xD:List PK:=[.v .i,.v .i]
def xJ:RK:=.ret [(.l (.st 4))]
def ATB:List PK:=[.v (.l (.st 4)),.v (.st 4)]
def ATC:List PK:=[.v (.l (.st 4)),.v (.l (.st 4))]
def ATD:List PK:=[.v (.l (.st 5)),.v (.st 5)]
def Po:List PK:=[.v (.l (.st 2)),.v .i]
def ATE:List PK:=[.v (.l (.st 5)),.v (.l (.st 5))]
def ATF:List PK:=[.v (.st 1),.v (.st 7),.v (.l (.st 2)),.v .i,.v .i]
def mA:List PK:=[.v (.st 9)]
def NC:List PK:=[.v (.st 10)]
def Pp:List PK:=[.v .i]
def Zr:List PK:=[.v (.st 11)]
def Oc:RK:=.ret [(.l .i)]
def Zs:List PK:=[.v (.l .i)]
def Pq:RK:=.ret [.s]
def Zt:List PK:=[.v (.l .u)]
def GM:List PK:=[.v (.st 8),.v .i]
def xK:RK:=.ret [(.st 1)]
def xN:List IP:=[.cell 2 (some 9)]
def Rh:RK:=.ret [(.st 3),.b]
def AGq:RK:=.ret [(.st 8),.b]
def mC:List IP:=[.cell 2 (some 15),.tmp 3]
def Tb:RK:=.ret [(.st 11),.b]
def Z8:List IP:=[.cell 2 (some 23),.tmp 3]
def Z3:RK:=.ret [(.st 9)]
def ATQ:List IP:=[.cell 2 (some 26),.tmp 3]
def Z4:RK:=.ret [(.st 9),.b]
def Z9:List IP:=[.cell 4 (some 2),.tmp 5]
def aA:List IP:=[.cell 4 (some 23),.tmp 5]
def Ri:RK:=.ret [(.st 8)]
def Ta:List PK:=[.v .s]
def xL:RK:=.ret [(.l (.st 15))]
def Zu:List PK:=[.v (.st 10),.v .i]
def xE:List PK:=[.b (.st 17)]
def xF:List PK:=[.v (.st 6),.v (.st 5)]
def Z5:RK:=.ret [(.st 6),.b]
def xO:List IP:=[.cell 4 (some 1),.tmp 5]
def AGs:List IP:=[.cell 2 (some 9),.tmp 3]
def AGo:List PK:=[.v (.l .i),.v (.l .i)]
def xP:List IP:=[.cell 4 (some 2)]
def Z6:RK:=.ret [(.st 8),.i,.b]
def xQ:List IP:=[.cell 2 (some 15),.tmp 3,.tmp 4]
def xR:List IP:=[.cell 4 (some 15),.tmp 5,.tmp 6]
def AGt:List IP:=[.cell 4 (some 6)]
def mB:List PK:=[.v (.st 8),.v (.st 0)]
def xG:List PK:=[.v (.st 2),.v .i]
def xH:List PK:=[.o (.st 8),.v (.st 2)]
def Vy:List IP:=[.cell 4 (some 15)]
def Zv:List PK:=[.v (.st 3),.v .i]
def aB:List IP:=[.cell 4 (some 5),.tmp 5]
def ATG:List PK:=[.v (.st 8),.v .i,.v .i,.v .i,.v .i,.v .i]
def LL:RK:=.ret [(.st 8),.i]
def ATR:List IP:=[.cell 12 (some 15),.tmp 13]
def AGr:RK:=.ret [(.l (.st 4)),.b]
def AGu:List IP:=[.tmp 4,.tmp 5]
def ND:List IP:=[.cell 4 (some 15),.tmp 5]
def ATS:List IP:=[.cell 6 (some 15),.tmp 7]
def ATT:List IP:=[.cell 6 (some 10),.tmp 7]
def AGp:List PK:=[.o (.st 8),.v .i]
def ATL:RK:=.ret [(.st 8),(.l .i)]
def ATM:RK:=.ret [(.st 8),.i,(.l .i)]
def ATN:RK:=.ret [(.st 8),(.st 12)]
def ATU:List IP:=[.cell 4 (some 15),.cell 5 (some 2)]
def ATH:List PK:=[.v (.st 8),.v (.l (.st 0))]
def ATO:RK:=.ret [(.st 8),(.l (.st 12))]
def ATP:RK:=.ret [(.st 11),(.l (.st 12))]
def Zw:List PK:=[.b (.st 3),.p .i]
def Z7:RK:=.ret []
def Zy:List PK:=[.v (.st 9),.v .i]
def ATI:List PK:=[.v (.st 10),.v .i,.v (.st 9)]
def xM:RK:=.ret [(.st 10)]
def xI:List PK:=[.v (.st 11),.v .i]
def ATJ:List PK:=[.v (.l (.st 12)),.v (.l (.st 12))]
end
end Lv
