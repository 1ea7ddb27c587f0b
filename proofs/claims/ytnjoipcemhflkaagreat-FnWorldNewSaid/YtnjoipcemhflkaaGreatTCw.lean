/- The typed machine is right about the light one. -/
import Derived.Test.YtnjoipcemhflkaaGreatTB
set_option linter.unusedVariables false
set_option linter.unusedSimpArgs false
set_option linter.unusedSectionVars false
namespace Lv
namespace Y
open Go (IntKind BinOp UnOp)
noncomputable section
def Rd(c a:Type):Type:=Nat->Nat->(a->Nat->Nat->c)->c
section
variable{c α β γ δ ε ζ:Type}
def gt:List α->Nat->α->α| [],_,a=>a|b::_,0,_=>b|_::l,n+1,a=>gt l n a
def rdE:List Nat->Nat->Nat->(Nat->Nat->c)->c
 | [],_,_,K=>K 0 0|e::l,r,q,K=>match Nat.blt r (e % 1024+1) with|true=>DT ((e % 1024+1)*q+r) fun x=>DT (e / 1024) fun s=>K s x|false=>rdE l (r-(e % 1024+1)) q K
def nu(l:List Nat):Rd c Nat:=fun x d K=>rdE l (x % 1024) (x / 1024) fun s x=>match Nat.beq s 999 with|true=>DT (x % 1024) fun s=>DT (x / 1024) fun x=>K s x d|false=>K s x d
def stp(z v:Nat):Nat:=(z / 1024 |||1 <<< (v+512))*1024+v
def dD(l:List Nat):Rd c Nat:=fun x z K=>nu l x z fun s x z=>DT (z % 1024+s-160) fun v=>DT (stp z v) fun z=>K v x z
def dA(l:List Nat):Rd c Nat:=fun x z K=>nu l x z fun v x z=>DT (stp z v) fun z=>K v x z
def sl(l:List Nat):Rd c Nat:=fun x z K=>nu l x z fun s x z=>DT (z % 1024+160-s) fun v=>K v x z
def m1(f:α->β)(a:Rd c α):Rd c β:=fun x d K=>a x d fun u x d=>K (f u) x d
def m2(f:α->β->γ)(a:Rd c α)(b:Rd c β):Rd c γ:=fun x d K=>a x d fun u x d=>b x d fun v x d=>K (f u v) x d
def m3(f:α->β->γ->δ)(a:Rd c α)(b:Rd c β)(e:Rd c γ):Rd c δ:=fun x d K=>a x d fun u x d=>b x d fun v x d=>e x d fun w x d=>K (f u v w) x d
def m4(f:α->β->γ->δ->ε)(a:Rd c α)(b:Rd c β)(e:Rd c γ)(g:Rd c δ):Rd c ε:=fun x d K=>a x d fun u x d=>m3 (f u) b e g x d K
def m5(f:α->β->γ->δ->ε->ζ)(a:Rd c α)(b:Rd c β)(e:Rd c γ)(g:Rd c δ)(h:Rd c ε):Rd c ζ:=fun x d K=>a x d fun u x d=>m4 (f u) b e g h x d K
def rep(m:Rd c α):Nat->Rd c (List α)|0=>fun x d K=>K [] x d|n+1=>m2 .cons m (rep m n)
def li(l:List Nat)(m:Rd c α):Rd c (List α):=fun x d K=>nu l x d fun n x d=>rep m n x d K
def kd(e:List Nat):Nat->Nat->Rd c (List Nat)|0,_=>fun x d K=>K [] x d|n+1,p=>fun x d K=>nu e x d fun s x d=>DT (p+s) fun v=>kd e n v x d fun r=>K (v::r)
def ke(l e:List Nat):Rd c (List Nat):=fun x d K=>nu l x d fun n x d=>kd e n 0 x d K
def kp(t:List (List (List Nat)))(d:Nat):Nat->Nat->Nat->Nat->Nat->Nat->(List Nat->Nat->c)->c
 |0,_,_,_,_,x,K=>K [] x|f+1,i,o,w,p,x,K=>match Nat.beq (o |||w) 0 with
  |true=>K [] x|false=>DT (o / 2) fun o'=>DT (w / 2) fun w'=>DT (i+1) fun j=>match Nat.beq ((o |||w) % 2) 0 with
   |true=>kp t d f j o' w' p x K|false=>rdE (gt (gt t (match Nat.beq i d with|true=>0|false=>1+w % 2) []) p []) (x % 1024) (x / 1024) fun s x=>match s with|0=>kp t d f j o' w' 0 x K|_=>kp t d f j o' w' 1 x fun r=>K (i::r)
def bits:List Nat->Nat->Nat| [],a=>a|i::r,a=>DT (a |||1 <<< i) fun a=>bits r a
def cN(l:List Nat):Rd c Nat:=fun x z K=>nu l x z fun v x z=>DT ((z / 1024 |||1 <<< (v+512))*1024+z % 1024) fun z=>K v x z
def ix(t:List α)(a:α)(l:List Nat):Rd c α:=m1 (fun n=>gt t n a) (nu l)
def t0:List Nat:=[1810,3166,2095,6183,4123,5144,1022976]
def t1:List Nat:=[340,7339,1181,13441,4182,10321,14352,5135,6152,3080,1022978]
def t2:List Nat:=[1265,135,3196,15458,7246,13370,8244,19505,4140,16415,21532,10263,1022995,24591,2062]
def t3:List Nat:=[8032,8303,13358]
def t4:List Nat:=[603,16495,3123,6190,11307,2082,10270,7196,5142,24593,8209,27654,1022979]
def t5:List Nat:=[16636,13506,141,10350,8268,17472,7206,3106,6168,24596,1041,5133,14346,1022985,18439]
def t6:List Nat:=[15631,1290,5235,2137,10307,23604,7208,4128,9238,26646,6163,3089]
def t7:List Nat:=[164397,1023217,183328,182301,175128,178198,169996,187404,171020,174092,162828,186379,179211,177163,185355]
def t8:List Nat:=[164155,165137,1023149,165968,166952,159765,157715,145425,158737,149515,160779,151563,168971,153611]
def t9:List Nat:=[1023174,525495,409733,524336,526380,162854,150554,158744,160787,157715,159763,144400,155663,151567,154638,147469,148492,146444,529419,153610,143370,156682,161802,152586,135176,140296,136200,149512,145415,142342,123910,139270,137222,543750,122885,141317]
def t10:List Nat:=[8838,1338,3127,1022981]
def t11:List Nat:=[1686,2261,111,3106]
def t12:List Nat:=[443,5356,1023061,11339,10299,3129,7206,2060,15370]
def t13:List Nat:=[7639,3503,1064,2085,4126,1022985]
def t14:List Nat:=[165306,410873,409692,1023058,165947,411676,418829,414730,412682,415754,534537,413704]
def t15:List Nat:=[3652,278,1141,1023004,2064]
def t16:List Nat:=[588,8451,3199,1052,4111,1022977]
def t17:List Nat:=[1926,72,2069,4109,3083]
def t18:List Nat:=[33694,33823,1023004,34828,35849,29702,28677]
def t19:List Nat:=[941,1067,2068,3081,1022982]
def t20:List Nat:=[165443,526779]
def t21:List Nat:=[525891,165307]
def t22:List Nat:=[11582,197,1178,2168,3138,13365,10272,1023008,8222,15372]
def t23:List Nat:=[209,7373,13448,14419,16462,8251,10295,15396,9240,1048,3094,2064,5133,19466,6153,11271,17413,1022981,20484,24580]
def t24:List Nat:=[332,6320,4239,8308,1133,3118,17436,9241,12313,21518]
def t25:List Nat:=[166397,165204,167047,168972,169996,1022986]
def t26:List Nat:=[2259,3266,1209,4202,6209,5182,1023031,8231,7203,9232,12297,10249,14344,11270,13317,15363]
def t27:List Nat:=[168110,170138,169102,171106,167007,172125,173119,165931,177183,174100,1022996,164883,176144,175120,524302,179210]
def t28:List Nat:=[118,1023078,6233,5202,1104,3151,2117,4155,7219,8227,9250,10274,18448,409615,13327,11277,17420,20492,16395,12298,14345,19463,24583,15366,21509,23557,28676,31748,22532,26627,25603]
def t29:List Nat:=[269,10470,13448,16460,1078,17455,15400,14371,24607,7188,8205,11276,5131,1022987,6153,19464,20485]
def t30:List Nat:=[4295,5253,7293,2157,6239,3155,8256,1023021,10269,9244,11285,13327,1035,10,15369,12296,16391,14341,20484,21508]
def t31:List Nat:=[165657,1023046,165913,166928,167949,169993,168966,175110,171014,174085,178180,172036,173060,177156,181252,179204,176132,183298,182274,185346,161794,180226,184322,189442,157698,186369,160769,159745]
def t32:List Nat:=[3478,9425,5302,4187,1092,6202,1022979]
def t33:List Nat:=[898,2118,1077]
def t34:List Nat:=[4071,1022999]
def t35:List Nat:=[165371,166009,167014,1023027,167973,168987,410648,409624,170004,171025,173068,174089,175111,177159,176134,413702,172037,415748,471043,529411,411651,527363,178179]
def t36:List Nat:=[925,1121]
def t37:List Nat:=[367,1367,2165,3129,4138,5145,6165,8204,7180,1022982,9221,10245]
def t38:List Nat:=[717267,165287,1023048,410682]
def t39:List Nat:=[22121,1280,8340]
def t40:List Nat:=[164854,1022984]
def t41:List Nat:=[249,1201,5218,4164,2111,6192,7213,3114,11299,12321,13340,8218,9240,15378,14349,10251,1022986,22535,21510,23555]
def t42:List Nat:=[165878,165895,1022976]
def t43:List Nat:=[1386,2367,3348,6193,4104,1022980]
def t44:List Nat:=[1976,1023016,15370,6150,20485,9221]
def t45:List Nat:=[166129,165053,164002,167046,168059,169017,170019,171026,1022987,173064,172040,174087,175110,177157,176133]
def t46:List Nat:=[1013,1033]
def t47:List Nat:=[1358,272,2293,10284,13352,12322,16409,1022998]
def t48:List Nat:=[1862,184]
def t49:List Nat:=[643,1399,2051]
def uT:List (U):=[.nil,.bool false,.bool true,.int .i64 1000000,.int .i64 999,.int .i64 (-1),.int .i64 1000008,.int .i64 1000001,.int .i64 20000,.int .i64 9999,.int .u64 1,.int .u64 4294967296,.int .u64 32,.int .u64 65536,.int .u64 16,.int .u64 256,.int .u64 8,.int .i64 2147483647,.int .i64 128,.str [],.int .i64 4294967295,.int .i64 3988292384,.int .u64 24,.int .i64 1048576,.np,.int .i64 28285,.int .i64 4000,.int .i64 131,.int .i64 1073741823,.int .i64 6364136223846793005,.int .i64 1442695040888963407,.int .u64 33,.int .u64 45,.int .i64 255,.int .i64 256,.int .i64 16777216,.int .i64 65536,.int .i64 9223372036854775807,.int .i64 (-9223372036854775808)]
def hT:List (Sh):=[.one]
def cT:List (C):=[.i,.st 4,.st 6,.l (.st 5),.st 5,.b,.st 2,.l (.st 4),.st 7,.st 0,.st 8,.l .i,.st 12,.l (.st 12),.m,.l (.st 2),.l .u,.u,.l (.st 7),.st 10,.l (.st 15),.st 15,.st 11,.l (.st 0),.st 1,.st 13]
def nT:List (List (Nat×C)):=[[(0,.i)],[(0,.st 4)],[(0,.l (.st 5))],[(5,.st 4),(6,.l (.st 5))],[(0,.st 5)],[(0,.st 2)],[(0,.i),(11,.st 2),(12,.st 7),(13,.i),(14,.i)],[(1,.i)],[(0,.st 12)],[(12,.st 7)],[(0,.i),(11,.st 2),(12,.st 7),(13,.i),(14,.i),(22,.st 0)],[(22,.st 0)],[(0,.u)],[(11,.st 2),(12,.st 7),(13,.i),(14,.i)],[(6,.l (.st 5))],[(0,.st 15)],[(0,.st 0)],[(5,.st 4)],[(0,.i),(11,.st 2),(12,.st 7),(13,.i),(14,.i),(22,.st 0),(23,.st 0),(24,.st 12)],[(0,.un 0)],[(23,.st 0),(24,.st 12)]]
def zT:List (List U):=[[.nil,.int .i64 0,.int .i64 0,.int .i64 0,.int .i64 0,.int .i64 0,.int .i64 0,.int .i64 0,.int .i64 0],[.nil],[.int .i64 0,.int .i64 0,.int .i64 0,.int .i64 0,.int .i64 0,.nil,.nil],[.int .i64 0,.int .i64 0,.int .i64 0,.int .i64 0,.int .i64 0,.int .i64 0,.int .i64 0,.int .i64 0,.int .i64 0,.int .i64 0],[.int .i64 0,.int .i64 0,.int .i64 0,.int .i64 0],[.int .i64 0,.int .i64 0],[.int .i64 0,.int .i64 0,.int .i64 0,.int .i64 0,.int .i64 0,.int .i64 0],[.nil,.int .i64 0,.int .i64 0,.int .i64 0,.int .i64 0,.int .i64 0,.int .i64 0,.int .i64 0,.int .i64 0,.int .i64 0,.int .i64 0,.nil,.nil,.nil,.nil],[.int .i64 0,.int .i64 0,.int .i64 0,.int .i64 0,.int .i64 0],[.int .i64 0,.nil],[.nil,.int .i64 0,.int .i64 0,.int .i64 0,.int .i64 0,.int .i64 0,.int .i64 0,.int .i64 0,.int .i64 0,.int .i64 0,.int .i64 0,.nil,.nil,.nil,.nil,.str [],.int .i64 0,.str [],.int .i64 0,.str [],.int .i64 0,.int .i64 0,.nil],[.str [],.int .i64 0],[.str [],.int .i64 0,.str [],.int .i64 0,.str [],.int .i64 0],[.int .i64 0,.str [],.int .i64 0],[.nil,.int .i64 0,.int .i64 0],[.nil,.int .i64 0,.int .i64 0,.int .i64 0,.int .i64 0,.int .i64 0,.int .i64 0,.int .i64 0,.int .i64 0,.int .i64 0,.int .i64 0,.nil,.nil,.nil,.nil,.str [],.int .i64 0,.str [],.int .i64 0,.str [],.int .i64 0,.int .i64 0,.nil,.nil,.nil,.int .i64 0],[.int .i64 0,.int .i64 0,.int .i64 0,.int .i64 0,.int .i64 0,.int .i64 0,.int .i64 0,.int .i64 0,.nil]]
def bT:List (Cls×BinOp):=[(.num,.lss),(.num,.add),(.num,.geq),(.num,.leq),(.num,.sub),(.num,.eql),(.num,.gtr),(.num,.neq),(.num,.rem),(.num,.quo),(.agg [.i,.i,.i,.i],.neq),(.agg [.i,.i],.neq),(.agg [.i,.i,.i,.i,.i,.i],.eql),(.num,.mul),(.agg [.i,.i],.eql),(.num,.shr),(.num,.xor),(.num,.and),(.num,.shl),(.sl,.eql),(.agg [.i,.i,.i,.i,.i],.eql),(.agg [.i,.i,.i,.i,.i,.i,.i,.i,.i,.i],.neq)]
def UT:List (UnOp):=[.not]
def kT:List (IntKind):=[.u64,.i64,.u8]
def aT:List (AL):=[.num .u64,.val (.l .i) (some (.old 0)),.al (.cell 7 0),.val (.st 17) (some (.old 0))]
def pT:List (List Nat):=[t29,t39,t2,t39,t2,t2,t2,t5,t44,t2,t47,t47,t2,t3,t2,t2,t22,t29,t2,t2,t2,t10,t2,t2]
def kk(g:List Nat)(t:List (List (List Nat))):Rd c (List Nat):=fun x z K=>nu g x z fun s x z=>match s with|0=>kp t (z % 1024) 512 0 (z / 1024 % 2 ^ 512) (z / 1024 / 2 ^ 512) 1 x fun r x=>DT (bits r 0*1024+z % 1024) fun z=>K r x z|_=>ke t26 t37 x z fun r x z=>DT (bits r 0*1024+z % 1024) fun z=>K r x z
def od(l:List Nat)(q:Nat->Nat->Nat:=fun z s=>z % 1024+160-s):Rd c YO:=fun x d K=>nu l x d fun s x d=>match Nat.blt s 400 with
 |true=>DT (q d s) fun v=>K (.tmp v) x d|false=>match Nat.blt s 512 with|true=>DT (s-400) fun v=>K (.k (.int .i64 (Int.ofNat v))) x d|false=>K (.k (gt uT (s-512) .nil)) x d
def oo(l:List Nat):Rd c (Option YO):=fun x d K=>nu l x d fun s x d=>match Nat.blt s 400 with
 |true=>DT (d % 1024+160-s) fun v=>K (some (.tmp v)) x d|false=>match Nat.blt s 512 with
  |true=>DT (s-400) fun v=>K (some (.k (.int .i64 (Int.ofNat v)))) x d|false=>match Nat.blt s 700 with|true=>K (some (.k (gt uT (s-512) .nil))) x d|false=>K none x d
def on(l:List Nat):Rd c (Option Nat):=m1 (fun n=>match n with|0=>none|n+1=>some n) (nu l)
def bo(l:List Nat):Rd c Bool:=m1 (fun n=>match n with|0=>false|_=>true) (nu l)
def gu(l e:List Nat):Rd c (Option (Nat×Bool)):=fun x d K=>nu l x d fun s x d=>match s with|0=>K none x d|1=>sl e x d fun v=>K (some (v,false))|_=>sl e x d fun v=>K (some (v,true))
def nl(a b e:List Nat):Rd c (List (CH×C)):=m3 (fun k s p=>p.map fun q=>(match k with|false=>.cell s q.1|true=>.tmp s q.1,q.2)) (bo a) (sl b) (ix nT [] e)
def aL(l:List Nat):Rd c AL:=fun x d K=>nu l x d fun s x d=>match Nat.blt s 500 with|true=>K (.val (gt cT s .i) none) x d|false=>K (gt aT (s-500) (.num .i64)) x d
def cu:Rd c Cut:=li t11 (m4 (fun b n h a=>(b,n,h,a)) (bo t36) (cN t28) (ix hT .one t46) (li t44 (aL t12)))
variable{R:List GF}
def cl(d:Nat)(g:Option GF)(l:List YO):YOp R:=match g with
 |none=>.bad none|some g=>match h:fX g.ps with| []=>.call d g [] (by rw[h];rfl) l|_::_=>.bad none
section
variable(G:List GF)(X:List (YOp R))
def oq:Nat->Rd c (YOp R)|0=>m2 .mv (dD t31) (od t28 fun _ s=>s)|1=>m2 .as (dA t30) (od t9)|2=>m4 .pick (dD t42) (od t27) (od t20) (od t21)|3=>m2 .alloc (dA t30) (ix zT [] t30)|4=>m2 .box (dD t25) (od t25)|5=>m3 .build (dD t31) (ix zT [] t30) (li t37 (m3 (fun a b e=>(a,b,e)) (nu t41) (nu t44) (od t35)))|6=>m4 .CF (dD t31) (nu t37) (ix cT .i t24) (li t37 (m2 .mk (nu t37) (od t35)))|7=>m3 .ld (dD t31) (on t4) (od t31)|8=>m3 .st (nu t6) (od t7) (od t8)|9=>m2 .chk (dD t42) (od t35)|10=>m4 (fun d b x y=>.bin d b.1 b.2 x y) (dD t31) (ix bT (.num,.add) t41) (od t35) (od t14)|11=>m3 .un (dD t42) (ix UT .not t46) (od t42)|12=>m3 .cvI (dD t42) (ix kT .i64 t47) (od t42)|13=>m3 .fa (dD t31) (nu t41) (od t26 fun _ s=>s)|14=>m4 .ia (dD t42) (ix cT .i t24) (od t45) (od t35)|15=>m3 .ext (dD t35) (od t27) (nu t49)|16=>m3 cl (dD t31) (ix (G.map some) none t37) (li t43 (od t35))|17=>m2 .len (dD t42) (od t42)|18=>m2 .lens (dD t42) (od t42)|19=>m5 .app (dD t31) (ix cT .i t24) (bo t48) (od t27) (od t42)|20=>m5 .sub (dD t42) (ix cT .i t24) (od t45) (oo t38) (oo t38)|21=>m1 .VZ (nl t49 t40 t28)|22=>m2 .Ox (dD t42) (od t42)|23=>m4 .Vq (dD t42) (od t35) (oo t38) (oo t38)|_=>ix X (.bad none) t37
def oP(l:List Nat):Rd c (Nat×YOp R):=fun x d K=>nu l x d fun h x d=>oq G X h x d fun o=>K (h,o)
def oL:Nat->List Nat->Rd c (List (Option (Nat×Bool)×YOp R))|0,_=>fun x d K=>K [] x d|n+1,l=>fun x d K=>gu t33 t45 x d fun g x d=>oP G X l x d fun o x d=>oL n (gt pT o.1 t2) x d fun r=>K ((g,o.2)::r)
def rn:Nat->Nat->Rd c (Bw R)
 |0,_=>fun x d K=>K .nil x d|f+1,j=>fun x d K=>nu t17 x d fun h x d=>(match h with
  |0=>fun x d K=>K .nil x d|1=>fun x d K=>nu t18 x d fun i x d=>DT (j+i-32) fun i=>m4 (fun g s o r=>.op i g s o.2 r) (gu t33 t45) (ke t19 t28) (oP G X t23) (rn f (i+1)) x d K|2=>m2 .dr (ke t23 t44) (rn f j)|3=>m2 .nl (nl t49 t40 t28) (rn f j)|_=>m3 .both (nu t46) (rn f j) (rn f j):Rd c (Bw R)) x d K
def cd:Nat->List Nat->Rd c (Gv R)
 |0,_=>fun x d K=>K .dead x d|f+1,l=>fun x d K=>nu l x d fun h x d=>(match h with
  |0=>fun x d K=>K .skip x d|1=>m2 .region (fun x d K=>nu t26 x d fun n x d=>oL G X n t1 x d K) (kk t36 [[t48,t48],[t49,t48],[t46,t49]])|2=>m2 .VE (rn G X 900 0) (kk t36 [[t48,t48],[t49,t48],[t46,t49]])|3=>m2 .seq (cd f t0) (cd f t32)|4=>m3 .join cu (cd f t43) (cd f t32)|5=>fun x z K=>sl t40 x z fun n x z=>(kk t46 [[t46,t46],[t49,t48],[t0,t0]]) x z fun t x y=>(kk t46 [[t46,t46],[t49,t48],[t0,t0]]) x z fun e x z=>cd f t15 x y fun a x y=>DT (z / 1024*1024+y % 1024) fun z=>cd f t16 x z fun b x z=>
   DT ((y / 1024 |||z / 1024)*1024+z % 1024) fun z=>K (.cond n t e a b) x z
  |6=>m2 .block (nu t37) (cd f t13)|7=>m2 .loop cu (cd f t34)|8=>m1 .exit (nu t37)|9=>fun x d K=>K .ret x d|10=>m1 .scope (cd f t13)|11=>m2 .or (cd f t13) (cd f t13)|12=>fun x d K=>K .dead x d|_=>m2 .AW0 cu (cd f t34):Rd c (Gv R)) x d K
end
end
end
end Y
noncomputable section
open Y
def sB:List UInt8->Nat->Nat
 | [],a=>a|b::l,a=>DT b.toNat fun c=>DT (a*62+match Nat.blt c 58 with|true=>c-48|false=>match Nat.blt c 91 with|true=>c-55|false=>c-61) fun a=>sB l a
def sN:List String->Nat->Nat| [],a=>a|s::l,a=>DT (sB s.toByteArray.data.toList a) fun a=>sN l a
def dY{R:List GF}(n:List String)(G:List GF)(X:List (YOp R):=[]):Gv R:=DT (sN n 0) fun n=>cd G X 300 t34 n 0 fun a _ _=>a
def gZ(ps:List PK)(rk:RK)(rs:List Hu)(n:List String)(G:List GF)(d:A ps->Option (Tu (rk.cs++Lb ps)))(X:List (YOp []):=[])
 (hd:∀a,(YF.mk [] ps [] rk rs (dY n G X)).run a=d a:=by intro a;kernel_rfl) (hp:AEF ps=true:=by rfl)
 (hf:([]:List Nat).map (fun n=>(([]:List GF)[n]?).map GF.x)=(fX ps).map some:=by rfl):GF:=YF.gf ⟨[],ps,[],rk,rs,dY n G X⟩ hp hf d hd
def ASW:List PK:=[.v .i,.v .i,.v .i]
def C1:RK:=.ret [.b]
def Ui:List Hu:=[.tmp 6]
def Su:List PK:=[.v (.st 1)]
def DA:List Hu:=[.tmp 2]
def bW:List PK:=[.v (.st 1),.v (.st 2),.v .i]
def Xi:List PK:=[.v (.st 8)]
def sK:List PK:=[.v (.l .i),.v .i]
def Ca:List Hu:=[.tmp 4]
def ASe:List PK:=[.v (.st 4),.v (.st 4)]
def AHU:List PK:=[.v (.l (.st 4)),.v .i]
def C9:RK:=.ret [.i]
def xQ:List PK:=[.v (.l (.st 4))]
def Zc:List PK:=[.v (.st 6)]
def Zk:RK:=.ret [(.l (.st 5))]
def xR:List PK:=[.v (.st 7)]
def AoW:RK:=.ret [(.l (.st 4))]
def Aqn:List PK:=[.v (.l (.st 4)),.v (.st 4)]
def ASX:List PK:=[.v (.l (.st 4)),.v (.l (.st 4))]
def ASY:List PK:=[.v (.l (.st 5)),.v (.st 5)]
def ASZ:List PK:=[.v (.l (.st 2)),.v .i]
def O2:List PK:=[.v (.l (.st 5)),.v (.l (.st 5))]
def ASa:List PK:=[.v (.st 1),.v (.st 7),.v (.l (.st 2)),.v .i,.v .i]
def ASb:List PK:=[.v (.st 10)]
def mI:List PK:=[.v .i]
def Ma:List PK:=[.v (.st 11)]
def Al5:RK:=.ret [(.l .i)]
def AbZ:RK:=.ret [.s]
def N0:RK:=.ret [(.st 1)]
def AoX:List Hu:=[.cell 2 (some 9)]
def AbN:RK:=.ret [(.st 3),.b]
def AoY:List Hu:=[.cell 2 (some 15),.tmp 3]
def ApF:RK:=.ret [(.st 9)]
def Agn:RK:=.ret [(.st 11),.b]
def Agq:List Hu:=[.cell 2 (some 23),.tmp 3]
def Abv:RK:=.ret [(.st 8)]
def Qv:RK:=.ret [(.st 9),.b]
def ApH:List Hu:=[.cell 4 (some 2),.tmp 5]
def mK:List Hu:=[.cell 4 (some 23),.tmp 5]
def ApE:List PK:=[.v (.st 10),.v .i]
def ApG:RK:=.ret [(.l (.st 2))]
def AoV:List PK:=[.v (.st 6),.v (.st 5)]
def Anq:RK:=.ret [(.st 6),.b]
def Agr:List Hu:=[.cell 4 (some 1),.tmp 5]
def Abm:RK:=.ret [(.st 8),.i,.b]
def Aqs:List Hu:=[.cell 2 (some 15),.tmp 3,.tmp 4]
def Zq:List Hu:=[.cell 4 (some 15),.tmp 5,.tmp 6]
def AHV:List PK:=[.v (.st 8),.v .i]
def Aef:List PK:=[.v (.st 8),.v (.st 0)]
def AbY:List PK:=[.v (.st 2),.v .i]
def AHW:List PK:=[.o (.st 8),.v (.st 2)]
def Al6:List Hu:=[.cell 4 (some 15)]
def AfL:List PK:=[.v (.st 3),.v .i]
def Amg:List Hu:=[.cell 4 (some 5),.tmp 5]
def Mb:List PK:=[.v (.st 8),.v .i,.v .i,.v .i,.v .i,.v .i]
def Akn:RK:=.ret [(.st 8),.i]
def AfS:List Hu:=[.cell 12 (some 15),.tmp 13]
def Acx:RK:=.ret [(.l (.st 4)),.b]
def AfT:List Hu:=[.tmp 4,.tmp 5]
def xc:List Hu:=[.cell 4 (some 15),.tmp 5]
def xd:List Hu:=[.cell 6 (some 15),.tmp 7]
def xe:List Hu:=[.cell 6 (some 10),.tmp 7]
def AfN:List PK:=[.o (.st 8),.v .i]
def Aqo:RK:=.ret [(.st 8),(.l .i)]
def Aqp:RK:=.ret [(.st 8),.i,(.l .i)]
def Aqq:RK:=.ret [(.st 8),(.st 12)]
def Aqt:List Hu:=[.cell 4 (some 15),.cell 5 (some 2)]
def xV:List PK:=[.v (.st 8),.v (.l (.st 0))]
def Aqr:RK:=.ret [(.st 8),(.l (.st 12))]
def Zh:List PK:=[.b (.st 3),.p .i]
def Amf:RK:=.ret []
def ASc:List PK:=[.v (.st 9),.v .i]
end
end Lv
