/- The typed machine is right about the light one. -/
import Derived.Test.YtfokjgkkeobaiaaGreatTB
set_option linter.all false
namespace Lv
namespace Y
open Go (IntKind BinOp UnOp)
noncomputable section
def Rd(c a:Type):Type:=Nat->Nat->(a->Nat->Nat->c)->c
section
variable{c α β γ δ ε ζ:Type}
def gt:List α->Nat->α->α| [],_,a=>a|b::_,0,_=>b|_::l,n+1,a=>gt l n a
def rdE:List Nat->Nat->Nat->(Nat->Nat->c)->c
 | [],_,_,K=>K 0 0|e::l,r,q,K=>match Nat.blt r (e % 1024+1) with|true=>DX ((e % 1024+1)*q+r) λx=>DX (e / 1024) λs=>K s x|false=>rdE l (r-(e % 1024+1)) q K
def nu(l:List Nat):Rd c Nat:=λx d K=>rdE l (x % 1024) (x / 1024) λs x=>match Nat.beq s 999 with|true=>DX (x % 1024) λs=>DX (x / 1024) λx=>K s x d|false=>K s x d
def stp(z v:Nat):Nat:=(z / 1024 |||1 <<< (v+512))*1024+v
def dD(l:List Nat):Rd c Nat:=λx z K=>nu l x z λs x z=>DX (z % 1024+s-160) λv=>DX (stp z v) λz=>K v x z
def dA(l:List Nat):Rd c Nat:=λx z K=>nu l x z λv x z=>DX (stp z v) λz=>K v x z
def sl(l:List Nat):Rd c Nat:=λx z K=>nu l x z λs x z=>DX (z % 1024+160-s) λv=>K v x z
def m1(f:α->β)(a:Rd c α):Rd c β:=λx d K=>a x d λu x d=>K (f u) x d
def m2(f:α->β->γ)(a:Rd c α)(b:Rd c β):Rd c γ:=λx d K=>a x d λu x d=>b x d λv x d=>K (f u v) x d
def m3(f:α->β->γ->δ)(a:Rd c α)(b:Rd c β)(e:Rd c γ):Rd c δ:=λx d K=>a x d λu x d=>b x d λv x d=>e x d λw x d=>K (f u v w) x d
def m4(f:α->β->γ->δ->ε)(a:Rd c α)(b:Rd c β)(e:Rd c γ)(g:Rd c δ):Rd c ε:=λx d K=>a x d λu x d=>m3 (f u) b e g x d K
def m5(f:α->β->γ->δ->ε->ζ)(a:Rd c α)(b:Rd c β)(e:Rd c γ)(g:Rd c δ)(h:Rd c ε):Rd c ζ:=λx d K=>a x d λu x d=>m4 (f u) b e g h x d K
def rep(m:Rd c α):Nat->Rd c (List α)|0=>λx d K=>K [] x d|n+1=>m2 .cons m (rep m n)
def li(l:List Nat)(m:Rd c α):Rd c (List α):=λx d K=>nu l x d λn x d=>rep m n x d K
def kd(e:List Nat):Nat->Nat->Rd c (List Nat)|0,_=>λx d K=>K [] x d|n+1,p=>λx d K=>nu e x d λs x d=>DX (p+s) λv=>kd e n v x d λr=>K (v::r)
def ke(l e:List Nat):Rd c (List Nat):=λx d K=>nu l x d λn x d=>kd e n 0 x d K
def kp(t:List (List (List Nat)))(d:Nat):Nat->Nat->Nat->Nat->Nat->Nat->(List Nat->Nat->c)->c
 |0,_,_,_,_,x,K=>K [] x|f+1,i,o,w,p,x,K=>match Nat.beq (o |||w) 0 with
  |true=>K [] x|false=>DX (o / 2) λo'=>DX (w / 2) λw'=>DX (i+1) λj=>match Nat.beq ((o |||w) % 2) 0 with
   |true=>kp t d f j o' w' p x K|false=>rdE (gt (gt t (match Nat.beq i d with|true=>0|false=>1+w % 2) []) p []) (x % 1024) (x / 1024) λs x=>match s with|0=>kp t d f j o' w' 0 x K|_=>kp t d f j o' w' 1 x λr=>K (i::r)
def bits:List Nat->Nat->Nat| [],a=>a|i::r,a=>DX (a |||1 <<< i) λa=>bits r a
def cN(l:List Nat):Rd c Nat:=λx z K=>nu l x z λv x z=>DX ((z / 1024 |||1 <<< (v+512))*1024+z % 1024) λz=>K v x z
def ix(t:List α)(a:α)(l:List Nat):Rd c α:=m1 (λn=>gt t n a) (nu l)
def t0:List Nat:=[1808,3174,2092,6181,4127,5139,1022976]
def t1:List Nat:=[359,7335,1178,13432,4177,10314,5142,14349,6156,3081,1022978]
def t2:List Nat:=[1023154,524461,409741,543789,539692,162856,150550,158742,157715,159762,147472,160783,155663,154639,151565,153613,144397,161805,146444,156684,148492,139275,149515,143370,549898,540681,145417,137225,135176,138248,142344,152584,141319,136199,140293,133125,124933,123909]
def t3:List Nat:=[165309,410869,409690,1023047,165937,411679,418829,414732,412683,415755,548873,413705,417799,561159]
def t4:List Nat:=[1667,2286,95,3116]
def t5:List Nat:=[454,1230,12376,1023051,7212,6187,11292,512015,18447,19470,4107,13321,21513]
def t6:List Nat:=[7641,3484,1079,2086,4128,1022984]
def t7:List Nat:=[165386,540148]
def t8:List Nat:=[524810,165364]
def t9:List Nat:=[3654,274,1138,2067,8204,4106,1022982]
def t10:List Nat:=[603,8443,3195,1052,4108,1022977]
def t11:List Nat:=[1254,3201,118,15472,7238,13376,8252,19508,16423,4132,21537,10262,1022989,24589,2058,6151]
def t12:List Nat:=[602,16493,3127,6185,11303,7206,2079,10271,24599,5139,8207,27653,1022979]
def t13:List Nat:=[16639,13505,145,10340,8271,17472,7202,6176,3102,1043,24593,5133,14345,18440,19461,1022981]
def t14:List Nat:=[8037,8309,13347]
def t15:List Nat:=[15615,1272,5218,2140,23617,10299,6200,7201,9248,4122,26650,3094]
def t16:List Nat:=[164369,1023212,183325,182297,178198,175124,174093,185357,187405,195597,171021,169995,177163,179211,219146,186377,191497,184329,162825]
def t17:List Nat:=[164191,165118,1023137,165960,166948,159764,145425,157711,158734,160778,154634,151562,156682,153610,131081,168969]
def t18:List Nat:=[1922,72,2071,4110,3084]
def t19:List Nat:=[33677,33826,1023001,34832,35849,29703,36871,28677,26627]
def t20:List Nat:=[929,1067,2074,3082,1022983,8195]
def t21:List Nat:=[209,7369,13448,16472,14418,8251,10294,15392,1048,3095,5139,9233,2065,19468,6153,11271,20484,1022980,24580,17411]
def t22:List Nat:=[11566,207,1185,2143,3139,13361,10273,1023006,8221,16411,15373]
def t23:List Nat:=[8850,1331,3114,1022989]
def t24:List Nat:=[276,1142,2133,3129,11320,4151,5172,12333,6187,9251,13342,7197,8221,15383,14356,10256,22544,21514,1022986]
def t25:List Nat:=[164047,165072,166081,167052,168041,169024,170025,171027,172040,1022984,173062,175110,174086]
def t26:List Nat:=[393,9366,5236,8289,10327,2086,6181,14372,20516,15378,1022981]
def t27:List Nat:=[1946,1023022,15371,9227,6154,2058,20487]
def t28:List Nat:=[168125,169107,170130,167030,171109,172120,173110,165926,177175,174101,164882,1022993,175119,176142,543754,179209]
def t29:List Nat:=[122,3162,4183,1023063,5201,1101,6204,7227,2105,9257,8230,10269,11281,13327,18444,20492,17420,409611,16395,12297,14344,15368,24582,19462,21510,23557,22532,31747,25603,28675,51202,58370,26626,27650,30722]
def t30:List Nat:=[1353,2235,10371,116,11325,12344,9238,13334,5137,1022992,16399,7179,8203,3081,6150]
def t31:List Nat:=[2265,3266,1207,4197,6206,5181,1023027,8232,7206,9233,10250,12297,14344,11271,13316,16387,15362]
def t32:List Nat:=[911,2106,1076]
def t33:List Nat:=[165238,166211,167037,168000,1023039,168977,169996,410633,174087,171015,176134,178181]
def t34:List Nat:=[4072,1022998]
def t35:List Nat:=[164855,1022983]
def t36:List Nat:=[3482,9425,5306,4181,1091,6201,1022979]
def t37:List Nat:=[165397,165970,166988,1023012,168992,410656,167967,409630,170008,171030,173068,175112,413704,177159,174087,540678,415750,172038,178182,176133,412677,411653,414724,471044,541700,181251,179203]
def t38:List Nat:=[919,1127]
def t39:List Nat:=[717254,165273,1023077,410680]
def t40:List Nat:=[265,10473,13431,16471,1077,15405,17452,14374,24603,7186,11281,8205,5131,6154,1022986,19463,18437,20484]
def t41:List Nat:=[165881,165892,1022976]
def t42:List Nat:=[4290,5298,2165,6240,3154,7240,8239,1023019,9251,10272,13343,11281,12301,1036,16395,14344,15365,21508,4,17411]
def t43:List Nat:=[2018,15372,13320,1022982]
def t44:List Nat:=[165645,1023045,165916,166929,167949,169992,168967,175110,171014,172037,174085,173060,181252,179204,178180,177156,176132,161795,185347,182275,183298,160770,189442,180226,157698,184322,188417,186369,158721,159745]
def t45:List Nat:=[22085,1327,8329]
def t46:List Nat:=[1546,314,2149,3101,1022987,4106,5127,8199,10247,6150]
def t47:List Nat:=[642,1404]
def t48:List Nat:=[1013,1033]
def t49:List Nat:=[1391,2389,3326,6188,4104,1022980]
def t50:List Nat:=[1861,185]
def t51:List Nat:=[436,1227,2206,3136,4146,5151,6172,7182,8204,9225,10244,1022979]
def uT:List (U):=[.bool false,.int .i64 1048576,.np,.int .i64 28285,.int .i64 4000,.int .i64 131,.int .i64 1073741823,.int .i64 6364136223846793005,.int .i64 1442695040888963407,.int .u64 33,.int .u64 45,.int .i64 255,.int .i64 256,.int .i64 16777216,.int .i64 65536,.bool true,.int .i64 (-1),.int .i64 1000000,.int .i64 999,.nil,.int .i64 1000008,.int .i64 1000001,.int .i64 2147483647,.int .i64 127,.int .i64 128,.str [],.int .i64 4294967295,.int .i64 3988292384,.int .u64 24,.int .u64 16,.int .u64 8,.int .i64 9223372036854775807,.int .i64 (-9223372036854775808),.int .i64 20000,.int .i64 9999,.int .i64 (-5),.int .u64 1,.int .u64 4294967296,.int .u64 32,.int .u64 65536,.int .u64 256,.sl .i []]
def hT:List (Sh):=[.one]
def cT:List (C):=[.i,.b,.u,.st 1,.st 6,.st 5,.l (.st 5),.st 8,.st 7,.st 2,.st 4,.l (.st 4),.l .i,.l .u,.st 0,.st 12,.l (.st 12),.st 9,.l (.st 2),.l (.st 7),.st 15,.l (.st 15),.st 10,.st 11,.l (.st 0),.st 13,.l (.st 14),.st 14,.m]
def nT:List (List (Nat×C)):=[[(0,.i)],[(0,.l (.st 5))],[(5,.st 4),(6,.l (.st 5))],[(5,.st 4)],[(0,.i),(11,.st 2),(12,.st 7),(13,.i),(14,.i)],[(11,.st 2),(12,.st 7),(13,.i),(14,.i)],[(0,.st 5)],[(0,.st 4)],[(0,.u)],[(0,.i),(11,.st 2),(12,.st 7),(13,.i),(14,.i),(22,.st 0)],[(22,.st 0)],[(0,.i),(11,.st 2),(12,.st 7),(13,.i),(14,.i),(22,.st 0),(23,.st 0),(24,.st 12)],[(23,.st 0),(24,.st 12)],[(0,.st 12)],[(0,.st 2)],[(1,.i)],[(0,.st 15)],[(0,.st 0)],[(0,.st 14)],[(8,.i)],[(6,.l (.st 5))],[(12,.st 7)]]
def zT:List (List U):=[[.nil,.int .i64 0,.int .i64 0],[.nil,.int .i64 0,.int .i64 0,.int .i64 0,.int .i64 0,.int .i64 0,.int .i64 0,.int .i64 0,.int .i64 0],[.int .i64 0,.int .i64 0,.int .i64 0,.int .i64 0,.int .i64 0],[.nil],[.int .i64 0,.int .i64 0,.int .i64 0,.int .i64 0,.int .i64 0,.nil,.nil],[.nil,.int .i64 0,.int .i64 0,.int .i64 0,.int .i64 0,.int .i64 0,.int .i64 0,.int .i64 0,.int .i64 0,.int .i64 0,.int .i64 0,.nil,.nil,.nil,.nil],[.int .i64 0,.int .i64 0,.int .i64 0,.int .i64 0,.int .i64 0,.int .i64 0,.int .i64 0,.int .i64 0,.int .i64 0,.int .i64 0],[.int .i64 0,.int .i64 0,.int .i64 0,.int .i64 0],[.int .i64 0,.int .i64 0],[.nil,.int .i64 0,.int .i64 0,.int .i64 0,.int .i64 0,.int .i64 0,.int .i64 0,.int .i64 0,.int .i64 0,.int .i64 0,.int .i64 0,.nil,.nil,.nil,.nil,.str [],.int .i64 0,.str [],.int .i64 0,.str [],.int .i64 0,.int .i64 0,.nil],[.str [],.int .i64 0],[.str [],.int .i64 0,.str [],.int .i64 0,.str [],.int .i64 0],[.nil,.int .i64 0,.int .i64 0,.int .i64 0,.int .i64 0,.int .i64 0,.int .i64 0,.int .i64 0,.int .i64 0,.int .i64 0,.int .i64 0,.nil,.nil,.nil,.nil,.str [],.int .i64 0,.str [],.int .i64 0,.str [],.int .i64 0,.int .i64 0,.nil,.nil,.nil,.int .i64 0],[.int .i64 0,.int .i64 0,.int .i64 0,.int .i64 0,.int .i64 0,.int .i64 0],[.int .i64 0,.nil],[.nil,.int .i64 0,.bool false],[.int .i64 0,.str [],.int .i64 0],[.int .i64 0,.int .i64 0,.int .i64 0,.int .i64 0,.int .i64 0,.int .i64 0,.int .i64 0,.int .i64 0,.nil]]
def bT:List (Cls×BinOp):=[(.num,.gtr),(.num,.add),(.num,.lss),(.num,.mul),(.num,.and),(.num,.shr),(.num,.xor),(.num,.leq),(.num,.rem),(.num,.geq),(.num,.eql),(.num,.sub),(.num,.neq),(.num,.quo),(.agg [.i,.i,.i,.i],.neq),(.agg [.i,.i],.neq),(.agg [.i,.i,.i,.i,.i,.i],.eql),(.agg [.i,.i],.eql),(.num,.shl),(.num,.or),(.sl,.eql),(.agg [.i,.i,.i,.i,.i,.i,.i,.i,.i,.i],.neq),(.agg [.i,.i,.i,.i,.i],.eql),(.bool,.eql)]
def UT:List (UnOp):=[.not]
def kT:List (IntKind):=[.i64,.u8,.u64]
def aT:List (AL):=[.val (.st 17) (some (.old 0)),.val (.st 16) (some (.old 0)),.al (.cell 5 0),.num .u64,.val (.l .i) (some (.old 0)),.al (.cell 7 0)]
def pT:List (List Nat):=[t40,t45,t11,t45,t11,t11,t11,t13,t43,t11,t30,t51,t11,t14,t11,t11,t22,t40,t11,t11,t11,t23,t11,t11]
def kk(g:List Nat)(t:List (List (List Nat))):Rd c (List Nat):=λx z K=>nu g x z λs x z=>match s with|0=>kp t (z % 1024) 512 0 (z / 1024 % 2 ^ 512) (z / 1024 / 2 ^ 512) 1 x λr x=>DX (bits r 0*1024+z % 1024) λz=>K r x z|_=>ke t31 t46 x z λr x z=>DX (bits r 0*1024+z % 1024) λz=>K r x z
def od(l:List Nat)(q:Nat->Nat->Nat:=λz s=>z % 1024+160-s):Rd c YO:=λx d K=>nu l x d λs x d=>match Nat.blt s 400 with
 |true=>DX (q d s) λv=>K (.tmp v) x d|false=>match Nat.blt s 512 with|true=>DX (s-400) λv=>K (.k (.int .i64 (Int.ofNat v))) x d|false=>K (.k (gt uT (s-512) .nil)) x d
def oo(l:List Nat):Rd c (Option YO):=λx d K=>nu l x d λs x d=>match Nat.blt s 400 with
 |true=>DX (d % 1024+160-s) λv=>K (some (.tmp v)) x d|false=>match Nat.blt s 512 with
  |true=>DX (s-400) λv=>K (some (.k (.int .i64 (Int.ofNat v)))) x d|false=>match Nat.blt s 700 with|true=>K (some (.k (gt uT (s-512) .nil))) x d|false=>K none x d
def on(l:List Nat):Rd c (Option Nat):=m1 (λn=>match n with|0=>none|n+1=>some n) (nu l)
def bo(l:List Nat):Rd c Bool:=m1 (λn=>match n with|0=>false|_=>true) (nu l)
def gu(l e:List Nat):Rd c (Option (Nat×Bool)):=λx d K=>nu l x d λs x d=>match s with|0=>K none x d|1=>sl e x d λv=>K (some (v,false))|_=>sl e x d λv=>K (some (v,true))
def nl(a b e:List Nat):Rd c (List (CJ×C)):=m3 (λk s p=>p.map λq=>(match k with|false=>.cell s q.1|true=>.tmp s q.1,q.2)) (bo a) (sl b) (ix nT [] e)
def aL(l:List Nat):Rd c AL:=λx d K=>nu l x d λs x d=>match Nat.blt s 500 with|true=>K (.val (gt cT s .i) none) x d|false=>K (gt aT (s-500) (.num .i64)) x d
def cu:Rd c Cut:=li t4 (m4 (λb n h a=>(b,n,h,a)) (bo t38) (cN t29) (ix hT .one t48) (li t43 (aL t5)))
variable{R:List GF}
def cl(d:Nat)(g:Option GF)(l:List YO):YOp R:=match g with
 |none=>.bad none|some g=>match h:fX g.ps with| []=>.call d g [] (by rw[h];rfl) l|_::_=>.bad none
section
variable(G:List GF)(X:List (YOp R))
def oq:Nat->Rd c (YOp R)|0=>m2 .mv (dD t44) (od t29 λ_ s=>s)|1=>m2 .as (dA t42) (od t2)|2=>m4 .pick (dD t41) (od t28) (od t7) (od t8)|3=>m2 .alloc (dA t42) (ix zT [] t42)|4=>m2 .box (dD t33) (od t33)|5=>m3 .build (dD t44) (ix zT [] t42) (li t51 (m3 (λa b e=>(a,b,e)) (nu t24) (nu t27) (od t37)))|6=>m4 .CA (dD t44) (nu t46) (ix cT .i t26) (li t46 (m2 .mk (nu t51) (od t37)))|7=>m3 .ld (dD t44) (on t12) (od t44)|8=>m3 .st (nu t15) (od t16) (od t17)|9=>m2 .chk (dD t41) (od t37)|10=>m4 (λd b x y=>.bin d b.1 b.2 x y) (dD t44) (ix bT (.num,.add) t30) (od t33) (od t3)|11=>m3 .un (dD t41) (ix UT .not t48) (od t41)|12=>m3 .cvI (dD t41) (ix kT .i64 t46) (od t41)|13=>m3 .fa (dD t44) (nu t24) (od t31 λ_ s=>s)|14=>m4 .ia (dD t41) (ix cT .i t26) (od t33) (od t37)|15=>m3 .ext (dD t37) (od t28) (nu t46)|16=>m3 cl (dD t44) (ix (G.map some) none t51) (li t49 (od t37))|17=>m2 .len (dD t41) (od t41)|18=>m2 .lens (dD t41) (od t41)|19=>m5 .app (dD t37) (ix cT .i t26) (bo t50) (od t28) (od t41)|20=>m5 .sub (dD t41) (ix cT .i t26) (od t33) (oo t39) (oo t39)|21=>m1 .Qn (nl t47 t35 t29)|22=>m2 .Pj (dD t41) (od t41)|23=>m4 .WB (dD t41) (od t37) (oo t39) (oo t39)|_=>ix X (.bad none) t51
def oP(l:List Nat):Rd c (Nat×YOp R):=λx d K=>nu l x d λh x d=>oq G X h x d λo=>K (h,o)
def oL:Nat->List Nat->Rd c (List (Option (Nat×Bool)×YOp R))|0,_=>λx d K=>K [] x d|n+1,l=>λx d K=>gu t32 t25 x d λg x d=>oP G X l x d λo x d=>oL n (gt pT o.1 t11) x d λr=>K ((g,o.2)::r)
def rn:Nat->Nat->Rd c (B2 R)
 |0,_=>λx d K=>K .nil x d|f+1,j=>λx d K=>nu t18 x d λh x d=>(match h with
  |0=>λx d K=>K .nil x d|1=>λx d K=>nu t19 x d λi x d=>DX (j+i-32) λi=>m4 (λg s o r=>.op i g s o.2 r) (gu t32 t25) (ke t20 t29) (oP G X t21) (rn f (i+1)) x d K|2=>m2 .dr (ke t29 t27) (rn f j)|3=>m2 .nl (nl t38 t35 t42) (rn f j)|_=>m3 .both (nu t48) (rn f j) (rn f j):Rd c (B2 R)) x d K
def cd:Nat->List Nat->Rd c (HD R)
 |0,_=>λx d K=>K .dead x d|f+1,l=>λx d K=>nu l x d λh x d=>(match h with
  |0=>λx d K=>K .skip x d|1=>m2 .region (λx d K=>nu t31 x d λn x d=>oL G X n t1 x d K) (kk t38 [[t50,t50],[t47,t50],[t48,t47]])|2=>m2 .Va (rn G X 900 0) (kk t38 [[t50,t50],[t47,t50],[t48,t47]])|3=>m2 .seq (cd f t0) (cd f t36)|4=>m3 .join cu (cd f t49) (cd f t36)|5=>λx z K=>sl t35 x z λn x z=>(kk t48 [[t48,t48],[t47,t50],[t0,t0]]) x z λt x y=>(kk t48 [[t48,t48],[t47,t50],[t0,t0]]) x z λe x z=>cd f t9 x y λa x y=>DX (z / 1024*1024+y % 1024) λz=>cd f t10 x z λb x z=>
   DX ((y / 1024 |||z / 1024)*1024+z % 1024) λz=>K (.cond n t e a b) x z
  |6=>m2 .block (nu t51) (cd f t6)|7=>m2 .loop cu (cd f t34)|8=>m1 .exit (nu t51)|9=>λx d K=>K .ret x d|10=>m1 .scope (cd f t6)|11=>m2 .or (cd f t6) (cd f t6)|12=>λx d K=>K .dead x d|_=>m2 .ASz cu (cd f t34):Rd c (HD R)) x d K
end
end
end
end Y
noncomputable section
open Y
def sB:List UInt8->Nat->Nat
 | [],a=>a|b::l,a=>DX b.toNat λc=>DX (a*62+match Nat.blt c 58 with|true=>c-48|false=>match Nat.blt c 91 with|true=>c-55|false=>c-61) λa=>sB l a
def sN:List String->Nat->Nat| [],a=>a|s::l,a=>DX (sB s.toByteArray.data.toList a) λa=>sN l a
def dY{R:List GF}(n:List String)(G:List GF)(X:List (YOp R):=[]):HD R:=DX (sN n 0) λn=>cd G X 300 t34 n 0 λa _ _=>a
def gZ(ps:List PK)(rk:RK)(rs:List Ig)(n:List String)(G:List GF)(d:A ps->Option (Tu (rk.cs++ME ps)))(X:List (YOp []):=[])
 (hd:∀a,(YF.mk [] ps [] rk rs (dY n G X)).run a=d a:=by intro a;kernel_rfl) (hp:ADQ ps=true:=by rfl)
 (hf:([]:List Nat).map (λn=>(([]:List GF)[n]?).map GF.x)=(fX ps).map some:=by rfl):GF:=YF.gf ⟨[],ps,[],rk,rs,dY n G X⟩ hp hf d hd
def ARo:List PK:=[.v .i,.v .i,.v .i]
def DL:RK:=.ret [.b]
def TY:List Ig:=[.tmp 6]
def TW:List PK:=[.v (.st 1)]
def DV:List Ig:=[.tmp 2]
def bO:List PK:=[.v (.st 1),.v (.st 2),.v .i]
def Xo:List PK:=[.v (.st 8)]
def rK:List PK:=[.v (.l .i),.v .i]
def Cv:List Ig:=[.tmp 4]
def ARx:List PK:=[.v (.st 4),.v (.st 4)]
def AFt:List PK:=[.v (.l (.st 4)),.v .i]
def DO:RK:=.ret [.i]
def vq:List PK:=[.v (.l (.st 4))]
def Za:List PK:=[.v (.st 6)]
def Zf:RK:=.ret [(.l (.st 5))]
def vr:List PK:=[.v (.st 7)]
def vt:List PK:=[.v .i,.v .i]
def wF:RK:=.ret [(.l (.st 4))]
def ARp:List PK:=[.v (.l (.st 4)),.v (.st 4)]
def ARq:List PK:=[.v (.l (.st 4)),.v (.l (.st 4))]
def ARr:List PK:=[.v (.l (.st 5)),.v (.st 5)]
def Po:List PK:=[.v (.l (.st 2)),.v .i]
def ARs:List PK:=[.v (.l (.st 5)),.v (.l (.st 5))]
def ARt:List PK:=[.v (.st 1),.v (.st 7),.v (.l (.st 2)),.v .i,.v .i]
def ku:List PK:=[.v (.st 9)]
def Pp:List PK:=[.v (.st 10)]
def Pq:List PK:=[.v .i]
def TV:List PK:=[.v (.st 11)]
def OV:RK:=.ret [(.l .i)]
def Zb:List PK:=[.v (.l .i)]
def Rf:RK:=.ret [.s]
def Vo:List PK:=[.v (.l .u)]
def GL:List PK:=[.v (.st 8),.v .i]
def ky:RK:=.ret [(.st 1)]
def lA:List Ig:=[.cell 2 (some 9)]
def Rg:RK:=.ret [(.st 3),.b]
def AFw:RK:=.ret [(.st 8),.b]
def lB:List Ig:=[.cell 2 (some 15),.tmp 3]
def Zg:RK:=.ret [(.st 11),.b]
def lC:List Ig:=[.cell 2 (some 23),.tmp 3]
def Zh:RK:=.ret [(.st 9)]
def kz:RK:=.ret [(.st 9),.b]
def lD:List Ig:=[.cell 4 (some 2),.tmp 5]
def wJ:List Ig:=[.cell 4 (some 23),.tmp 5]
def Rh:RK:=.ret [(.st 8)]
def TX:List PK:=[.v .s]
def wG:RK:=.ret [(.l (.st 15))]
def Zc:List PK:=[.v (.st 10),.v .i]
def vu:List PK:=[.b (.st 17)]
def vz:List PK:=[.v (.st 6),.v (.st 5)]
def Zi:RK:=.ret [(.st 6),.b]
def wN:List Ig:=[.cell 4 (some 1),.tmp 5]
def AFy:List Ig:=[.cell 2 (some 9),.tmp 3]
def wP:List Ig:=[.cell 4 (some 2)]
def Zj:RK:=.ret [(.st 8),.i,.b]
def wS:List Ig:=[.cell 2 (some 15),.tmp 3,.tmp 4]
def wT:List Ig:=[.cell 4 (some 15),.tmp 5,.tmp 6]
def AFz:List Ig:=[.cell 4 (some 6)]
def kv:List PK:=[.v (.st 8),.v (.st 0)]
def wA:List PK:=[.v (.st 2),.v .i]
def wD:List PK:=[.o (.st 8),.v (.st 2)]
def Vp:List Ig:=[.cell 4 (some 15)]
def Zd:List PK:=[.v (.st 3),.v .i]
def Zl:List Ig:=[.cell 4 (some 5),.tmp 5]
def ARu:List PK:=[.v (.st 8),.v .i,.v .i,.v .i,.v .i,.v .i]
def K6:RK:=.ret [(.st 8),.i]
def AR3:List Ig:=[.cell 12 (some 15),.tmp 13]
def AFx:RK:=.ret [(.l (.st 4)),.b]
def AF0:List Ig:=[.tmp 4,.tmp 5]
def M6:List Ig:=[.cell 4 (some 15),.tmp 5]
def AR4:List Ig:=[.cell 6 (some 15),.tmp 7]
def AR5:List Ig:=[.cell 6 (some 10),.tmp 7]
def AFu:List PK:=[.o (.st 8),.v .i]
def ARy:RK:=.ret [(.st 8),(.l .i)]
def ARz:RK:=.ret [(.st 8),.i,(.l .i)]
def AR0:RK:=.ret [(.st 8),(.st 12)]
def AR6:List Ig:=[.cell 4 (some 15),.cell 5 (some 2)]
def ARv:List PK:=[.v (.st 8),.v (.l (.st 0))]
def AR1:RK:=.ret [(.st 8),(.l (.st 12))]
def AR2:RK:=.ret [(.st 11),(.l (.st 12))]
def Ze:List PK:=[.b (.st 3),.p .i]
def Zk:RK:=.ret []
def kx:List PK:=[.v (.st 9),.v .i]
def ARw:List PK:=[.v (.st 10),.v .i,.v (.st 9)]
def wH:RK:=.ret [(.st 10)]
def AFv:List PK:=[.v (.st 11),.v .i]
end
end Lv
