/- The typed machine is right about the light one. -/
import Derived.Test.YtcmjfplpdjflnaaGreatTBc
set_option linter.unusedVariables false
set_option linter.unusedSimpArgs false
set_option linter.unusedSectionVars false
namespace Lv
namespace Y
open Go (IntKind BinOp UnOp)
noncomputable section
def Rd(c a:Type):Type:=Nat->Nat->(a->Nat->Nat->c)->c
section
variable{c α β γ δ ε ζ:Type}
def gt:List α->Nat->α->α| [],_,a=>a|b::_,0,_=>b|_::l,n+1,a=>gt l n a
def rdE:List Nat->Nat->Nat->(Nat->Nat->c)->c
 | [],_,_,K=>K 0 0|e::l,r,q,K=>match Nat.blt r (e % 1024+1) with|true=>DP ((e % 1024+1)*q+r) fun x=>DP (e / 1024) fun s=>K s x|false=>rdE l (r-(e % 1024+1)) q K
def nu(l:List Nat):Rd c Nat:=fun x d K=>rdE l (x % 1024) (x / 1024) fun s x=>match Nat.beq s 999 with|true=>DP (x % 1024) fun s=>DP (x / 1024) fun x=>K s x d|false=>K s x d
def stp(z v:Nat):Nat:=(z / 1024 |||1 <<< (v+512))*1024+v
def dD(l:List Nat):Rd c Nat:=fun x z K=>nu l x z fun s x z=>DP (z % 1024+s-160) fun v=>DP (stp z v) fun z=>K v x z
def dA(l:List Nat):Rd c Nat:=fun x z K=>nu l x z fun v x z=>DP (stp z v) fun z=>K v x z
def sl(l:List Nat):Rd c Nat:=fun x z K=>nu l x z fun s x z=>DP (z % 1024+160-s) fun v=>K v x z
def m1(f:α->β)(a:Rd c α):Rd c β:=fun x d K=>a x d fun u x d=>K (f u) x d
def m2(f:α->β->γ)(a:Rd c α)(b:Rd c β):Rd c γ:=fun x d K=>a x d fun u x d=>b x d fun v x d=>K (f u v) x d
def m3(f:α->β->γ->δ)(a:Rd c α)(b:Rd c β)(e:Rd c γ):Rd c δ:=fun x d K=>a x d fun u x d=>b x d fun v x d=>e x d fun w x d=>K (f u v w) x d
def m4(f:α->β->γ->δ->ε)(a:Rd c α)(b:Rd c β)(e:Rd c γ)(g:Rd c δ):Rd c ε:=fun x d K=>a x d fun u x d=>m3 (f u) b e g x d K
def m5(f:α->β->γ->δ->ε->ζ)(a:Rd c α)(b:Rd c β)(e:Rd c γ)(g:Rd c δ)(h:Rd c ε):Rd c ζ:=fun x d K=>a x d fun u x d=>m4 (f u) b e g h x d K
def rep(m:Rd c α):Nat->Rd c (List α)|0=>fun x d K=>K [] x d|n+1=>m2 .cons m (rep m n)
def li(l:List Nat)(m:Rd c α):Rd c (List α):=fun x d K=>nu l x d fun n x d=>rep m n x d K
def kd(e:List Nat):Nat->Nat->Rd c (List Nat)|0,_=>fun x d K=>K [] x d|n+1,p=>fun x d K=>nu e x d fun s x d=>DP (p+s) fun v=>kd e n v x d fun r=>K (v::r)
def ke(l e:List Nat):Rd c (List Nat):=fun x d K=>nu l x d fun n x d=>kd e n 0 x d K
def kp(t:List (List (List Nat)))(d:Nat):Nat->Nat->Nat->Nat->Nat->Nat->(List Nat->Nat->c)->c
 |0,_,_,_,_,x,K=>K [] x|f+1,i,o,w,p,x,K=>match Nat.beq (o |||w) 0 with
  |true=>K [] x|false=>DP (o / 2) fun o'=>DP (w / 2) fun w'=>DP (i+1) fun j=>match Nat.beq ((o |||w) % 2) 0 with
   |true=>kp t d f j o' w' p x K|false=>rdE (gt (gt t (match Nat.beq i d with|true=>0|false=>1+w % 2) []) p []) (x % 1024) (x / 1024) fun s x=>match s with|0=>kp t d f j o' w' 0 x K|_=>kp t d f j o' w' 1 x fun r=>K (i::r)
def bits:List Nat->Nat->Nat| [],a=>a|i::r,a=>DP (a |||1 <<< i) fun a=>bits r a
def cN(l:List Nat):Rd c Nat:=fun x z K=>nu l x z fun v x z=>DP ((z / 1024 |||1 <<< (v+512))*1024+z % 1024) fun z=>K v x z
def ix(t:List α)(a:α)(l:List Nat):Rd c α:=m1 (fun n=>gt t n a) (nu l)
def t0:List Nat:=[1815,3170,2091,6181,4126,5138,1022976]
def t1:List Nat:=[383,7326,1171,13424,10322,4171,5139,3084,14348,6154,1022979]
def t2:List Nat:=[1255,3199,15468,108,7240,8258,13376,19509,16432,4130,21533,10264,24589,1022989,2058,6152]
def t3:List Nat:=[22165,8424,1152]
def t4:List Nat:=[933,1113]
def t5:List Nat:=[7999,8341,13353]
def t6:List Nat:=[608,16491,3127,11305,6184,7207,2079,10269,24601,5142,8204,1022979]
def t7:List Nat:=[1318,15589,5212,2139,23625,10310,6200,7201,4128,9238,3093]
def t8:List Nat:=[164391,1023217,183326,182294,178194,185358,175117,189453,171021,187404,174092,179212,169994,195594,186377,219145,188425,191496]
def t9:List Nat:=[164183,165152,1023115,165956,166949,159763,145425,157710,160780,158730,153610,150537,156681,154632,139272,144392,168968]
def t10:List Nat:=[1023155,525473,409743,162876,524332,526377,150550,158741,157715,155666,159762,160784,147471,153614,144397,151565,154637,148493,161805,149517,146445,156684,537611,139274,145417,529416,143368,135176,138248,142344,152584,137223,136199,141318,140293,122885,123909]
def t11:List Nat:=[8866,1319,3119,1022980]
def t12:List Nat:=[1632,2320,87,3123,1022977]
def t13:List Nat:=[2030,15376]
def t14:List Nat:=[429,6330,13389,1023045,517171,12336,3116,8222,22545,2064,17422,18445,11272,20488]
def t15:List Nat:=[7634,3490,1080,2089,4126,1022983]
def t16:List Nat:=[165303,410870,409695,1023037,165931,411681,418830,414734,412686,415755,413706,536584,417800,544775,416774]
def t17:List Nat:=[580,8434,3228,1052,4107,1022977]
def t18:List Nat:=[1924,72,2071,4111,3081]
def t19:List Nat:=[33671,33828,1023002,34833,35852,29704,36870,28676,26627]
def t20:List Nat:=[922,1073,2073,3082,4101,8195,1022979]
def t21:List Nat:=[1462,208,2189,10302,13362,12329,16421,1023004,5130]
def t22:List Nat:=[2556,1352,3234,1022990,6151]
def t23:List Nat:=[526866,165356]
def t24:List Nat:=[165394,525804]
def t25:List Nat:=[11541,198,1201,2126,3148,13381,10285,8221,1022999,16404,15371,5129]
def t26:List Nat:=[4317,5276,2174,6242,3160,7255,1023042,8244,9243,10262,11278,13323,12296,16391,14341,15365,17412,20484,21508]
def t27:List Nat:=[164047,165070,166079,167048,168036,169028,170029,171030,172040,1022984,173063,175111,174086]
def t28:List Nat:=[385,7333,4223,1118,9309,3115,10277,19491,5146,14345]
def t29:List Nat:=[135,3172,1023067,5208,1095,4159,6206,7230,2102,8232,9249,10269,11279,13326,20492,12300,17420,18444,409611,16394,14344,15367,21510,19462,24582,23557,22533,25604,29700,28675,51203,58371,30722,26626]
def t30:List Nat:=[1964,1023010,15368,9224,6152,20486,2054,8198]
def t31:List Nat:=[168134,169116,170109,167035,171105,172122,173114,165924,177176,174099,164881,1022993,176143,175118,524299,179208]
def t32:List Nat:=[205,7364,13447,16477,14417,8258,10297,15391,3095,1044,9234,5138,2064,19468,6154,11271,17412,20484,24580,1022980]
def t33:List Nat:=[8365,9387,4214,7251,79,3142,2116,10305,1078,5157,6171,13337,11282,1022988,14345]
def t34:List Nat:=[165643,1023043,165923,166929,167950,169992,168967,171014,175110,172037,173060,179204,178180,176132,174084,177156,181252,161795,182274,185346,180226,160770,183298,189442,184322,186369,159745,157697,188417,187393]
def t35:List Nat:=[920,2099,1074]
def t36:List Nat:=[4072,1022998]
def t37:List Nat:=[164856,1022982]
def t38:List Nat:=[2271,3270,1198,4200,5183,6203,1023025,7209,8230,9236,10250,14344,12295,11270,13315,16386,15362]
def t39:List Nat:=[1826,21683,8213,13330]
def t40:List Nat:=[3472,9416,5316,4186,1091,6204,2051,1022976]
def t41:List Nat:=[373,1334,2174,3134,4139,5146,6169,8207,7179,9224,10247,1022982]
def t42:List Nat:=[717253,165270,1023080,410681]
def t43:List Nat:=[703,1343]
def t44:List Nat:=[165882,1022980]
def t45:List Nat:=[165231,166204,167034,1023042,167999,168977,410641,169998,174088,171015,176133,178181,173060]
def t46:List Nat:=[1630,416]
def t47:List Nat:=[1883,163]
def t48:List Nat:=[165373,165969,166988,1023024,168993,167969,410657,409632,171028,170004,173067,529418,413706,175112,172039,177159,176134,412678,174086,415750,178181,414725,411653,181253,527364,471044,421891,416771]
def t49:List Nat:=[1013,1033]
def t50:List Nat:=[462,1374,2257]
def t51:List Nat:=[3584,1251,164,6197,2090,4106,8200,1022976]
def t52:List Nat:=[217,10423,16546,13454,17458,8231,1063,14363,15385,7193,24598,6165,5132,3083,11272,18439,19461,1022980,20483,12290]
def t53:List Nat:=[240,1213,5223,4168,2116,6193,3117,7209,11301,12317,9242,8214,13332,14356,15378,10250,22535,21510,1022979]
def uT:List (U):=[.nil,.bool false,.bool true,.int .i64 1000000,.int .i64 999,.int .i64 (-1),.int .i64 1000008,.int .i64 1000001,.int .i64 20000,.int .i64 9999,.int .i64 2147483647,.int .i64 127,.int .i64 128,.str [],.int .i64 4294967295,.int .i64 3988292384,.int .u64 24,.int .u64 16,.int .u64 8,.int .i64 (-5),.int .u64 1,.int .u64 4294967296,.int .u64 32,.int .u64 65536,.int .u64 256,.int .i64 1048576,.np,.int .i64 28285,.int .i64 4000,.int .i64 131,.int .i64 1073741823,.int .i64 6364136223846793005,.int .i64 1442695040888963407,.int .u64 33,.int .u64 45,.int .i64 255,.int .i64 256,.int .i64 16777216,.int .i64 65536,.int .i64 1000,.int .i64 10000,.int .i64 9223372036854775807,.int .i64 (-9223372036854775808),.int .i64 10000000,.int .i64 (-9),.int .i64 1000009,.int .i64 1000002,.str [48,49,50,51,52,53,54,55,56,57],.int .i64 19989,.int .i64 19990,.int .i64 999999,.int .i64 30000,.sl .i []]
def hT:List (Sh):=[.one]
def cT:List (C):=[.i,.st 4,.st 6,.l (.st 5),.st 5,.st 0,.b,.st 2,.l (.st 4),.st 7,.u,.l .u,.st 8,.l .i,.st 12,.l (.st 12),.st 9,.l (.st 2),.l (.st 7),.st 15,.l (.st 15),.st 10,.st 11,.l (.st 0),.m,.st 1,.st 3,.s]
def nT:List (List (Nat×C)):=[[(0,.i)],[(0,.st 4)],[(0,.l (.st 5))],[(5,.st 4),(6,.l (.st 5))],[(0,.i),(11,.st 2),(12,.st 7),(13,.i),(14,.i),(22,.st 0)],[(0,.st 5)],[(0,.u)],[(0,.st 2)],[(0,.i),(11,.st 2),(12,.st 7),(13,.i),(14,.i)],[(1,.i)],[(0,.st 12)],[(11,.st 2),(12,.st 7),(13,.i),(14,.i)],[(0,.st 15)],[(0,.st 0)],[(12,.st 7)],[(6,.l (.st 5))],[(22,.st 0)],[(5,.st 4)]]
def zT:List (List U):=[[.nil,.int .i64 0,.int .i64 0,.int .i64 0,.int .i64 0,.int .i64 0,.int .i64 0,.int .i64 0,.int .i64 0],[.nil],[.int .i64 0,.int .i64 0,.int .i64 0,.int .i64 0,.int .i64 0,.nil,.nil],[.nil,.int .i64 0,.int .i64 0,.int .i64 0,.int .i64 0,.int .i64 0,.int .i64 0,.int .i64 0,.int .i64 0,.int .i64 0,.int .i64 0,.nil,.nil,.nil,.nil,.str [],.int .i64 0,.str [],.int .i64 0,.str [],.int .i64 0,.int .i64 0,.nil],[.int .i64 0,.int .i64 0,.int .i64 0,.int .i64 0,.int .i64 0,.int .i64 0,.int .i64 0,.int .i64 0,.int .i64 0,.int .i64 0],[.int .i64 0,.int .i64 0,.int .i64 0,.int .i64 0],[.int .i64 0,.int .i64 0],[.int .i64 0,.int .i64 0,.int .i64 0,.int .i64 0,.int .i64 0,.int .i64 0],[.str [],.int .i64 0],[.nil,.int .i64 0,.int .i64 0,.int .i64 0,.int .i64 0,.int .i64 0,.int .i64 0,.int .i64 0,.int .i64 0,.int .i64 0,.int .i64 0,.nil,.nil,.nil,.nil],[.int .i64 0,.int .i64 0,.int .i64 0,.int .i64 0,.int .i64 0],[.int .i64 0,.nil],[.nil,.int .i64 0,.bool false],[.int .i64 0,.str [],.int .i64 0],[.str [],.int .i64 0,.str [],.int .i64 0,.str [],.int .i64 0],[.nil,.int .i64 0,.int .i64 0]]
def bT:List (Cls×BinOp):=[(.num,.lss),(.num,.add),(.num,.geq),(.num,.leq),(.num,.sub),(.num,.eql),(.num,.gtr),(.num,.neq),(.num,.rem),(.num,.quo),(.agg [.i,.i,.i,.i],.neq),(.agg [.i,.i],.neq),(.agg [.i,.i,.i,.i,.i,.i],.eql),(.num,.xor),(.num,.shr),(.num,.mul),(.agg [.i,.i],.eql),(.num,.shl),(.num,.or),(.num,.and),(.sl,.eql),(.agg [.i,.i,.i,.i,.i],.eql),(.agg [.i,.i,.i,.i,.i,.i,.i,.i,.i,.i],.neq),(.bool,.neq)]
def UT:List (UnOp):=[.not]
def kT:List (IntKind):=[.u8,.i64,.u64]
def aT:List (AL):=[.val (.st 16) (some (.old 0)),.al (.cell 5 0),.num .u64,.val (.l .i) (some (.old 0)),.al (.cell 7 0),.val (.st 17) (some (.old 0))]
def pT:List (List Nat):=[t52,t39,t2,t3,t2,t2,t2,t52,t39,t2,t21,t50,t2,t5,t2,t2,t25,t52,t2,t2,t2,t11,t2,t2]
def kk(g:List Nat)(t:List (List (List Nat))):Rd c (List Nat):=fun x z K=>nu g x z fun s x z=>match s with|0=>kp t (z % 1024) 512 0 (z / 1024 % 2 ^ 512) (z / 1024 / 2 ^ 512) 1 x fun r x=>DP (bits r 0*1024+z % 1024) fun z=>K r x z|_=>ke t38 t41 x z fun r x z=>DP (bits r 0*1024+z % 1024) fun z=>K r x z
def od(l:List Nat)(q:Nat->Nat->Nat:=fun z s=>z % 1024+160-s):Rd c YO:=fun x d K=>nu l x d fun s x d=>match Nat.blt s 400 with
 |true=>DP (q d s) fun v=>K (.tmp v) x d|false=>match Nat.blt s 512 with|true=>DP (s-400) fun v=>K (.k (.int .i64 (Int.ofNat v))) x d|false=>K (.k (gt uT (s-512) .nil)) x d
def oo(l:List Nat):Rd c (Option YO):=fun x d K=>nu l x d fun s x d=>match Nat.blt s 400 with
 |true=>DP (d % 1024+160-s) fun v=>K (some (.tmp v)) x d|false=>match Nat.blt s 512 with
  |true=>DP (s-400) fun v=>K (some (.k (.int .i64 (Int.ofNat v)))) x d|false=>match Nat.blt s 700 with|true=>K (some (.k (gt uT (s-512) .nil))) x d|false=>K none x d
def on(l:List Nat):Rd c (Option Nat):=m1 (fun n=>match n with|0=>none|n+1=>some n) (nu l)
def bo(l:List Nat):Rd c Bool:=m1 (fun n=>match n with|0=>false|_=>true) (nu l)
def gu(l e:List Nat):Rd c (Option (Nat×Bool)):=fun x d K=>nu l x d fun s x d=>match s with|0=>K none x d|1=>sl e x d fun v=>K (some (v,false))|_=>sl e x d fun v=>K (some (v,true))
def nl(a b e:List Nat):Rd c (List (CD×C)):=m3 (fun k s p=>p.map fun q=>(match k with|false=>.cell s q.1|true=>.tmp s q.1,q.2)) (bo a) (sl b) (ix nT [] e)
def aL(l:List Nat):Rd c AL:=fun x d K=>nu l x d fun s x d=>match Nat.blt s 500 with|true=>K (.val (gt cT s .i) none) x d|false=>K (gt aT (s-500) (.num .i64)) x d
def cu:Rd c Cut:=li t12 (m4 (fun b n h a=>(b,n,h,a)) (bo t43) (cN t29) (ix hT .one t49) (li t13 (aL t14)))
variable{R:List GF}
def cl(d:Nat)(g:Option GF)(l:List YO):YOp R:=match g with
 |none=>.bad none|some g=>match h:fX g.ps with| []=>.call d g [] (by rw[h];rfl) l|_::_=>.bad none
section
variable(G:List GF)(X:List (YOp R))
def oq:Nat->Rd c (YOp R)|0=>m2 .mv (dD t34) (od t29 fun _ s=>s)|1=>m2 .as (dA t26) (od t10)|2=>m4 .pick (dD t44) (od t31) (od t23) (od t24)|3=>m2 .alloc (dA t26) (ix zT [] t33)|4=>m2 .box (dD t45) (od t45)|5=>m3 .build (dD t34) (ix zT [] t33) (li t41 (m3 (fun a b e=>(a,b,e)) (nu t53) (nu t30) (od t48)))|6=>m4 .CB (dD t34) (nu t41) (ix cT .i t28) (li t41 (m2 .mk (nu t41) (od t48)))|7=>m3 .ld (dD t34) (on t6) (od t34)|8=>m3 .st (nu t7) (od t8) (od t9)|9=>m2 .chk (dD t44) (od t48)|10=>m4 (fun d b x y=>.bin d b.1 b.2 x y) (dD t34) (ix bT (.num,.add) t53) (od t45) (od t16)|11=>m3 .un (dD t44) (ix UT .not t49) (od t44)|12=>m3 .cvI (dD t34) (ix kT .i64 t50) (od t44)|13=>m3 .fa (dD t34) (nu t53) (od t38 fun _ s=>s)|14=>m4 .ia (dD t44) (ix cT .i t28) (od t45) (od t48)|15=>m3 .ext (dD t48) (od t31) (nu t50)|16=>m3 cl (dD t34) (ix (G.map some) none t41) (li t22 (od t48))|17=>m2 .len (dD t44) (od t44)|18=>m2 .lens (dD t44) (od t44)|19=>m5 .app (dD t48) (ix cT .i t28) (bo t47) (od t31) (od t44)|20=>m5 .sub (dD t44) (ix cT .i t28) (od t45) (oo t42) (oo t42)|21=>m1 .VO (nl t43 t37 t33)|22=>m2 .O3 (dD t44) (od t44)|23=>m4 .Vf (dD t34) (od t48) (oo t42) (oo t42)|_=>ix X (.bad none) t41
def oP(l:List Nat):Rd c (Nat×YOp R):=fun x d K=>nu l x d fun h x d=>oq G X h x d fun o=>K (h,o)
def oL:Nat->List Nat->Rd c (List (Option (Nat×Bool)×YOp R))|0,_=>fun x d K=>K [] x d|n+1,l=>fun x d K=>gu t35 t27 x d fun g x d=>oP G X l x d fun o x d=>oL n (gt pT o.1 t2) x d fun r=>K ((g,o.2)::r)
def rn:Nat->Nat->Rd c (Bu R)
 |0,_=>fun x d K=>K .nil x d|f+1,j=>fun x d K=>nu t18 x d fun h x d=>(match h with
  |0=>fun x d K=>K .nil x d|1=>fun x d K=>nu t19 x d fun i x d=>DP (j+i-32) fun i=>m4 (fun g s o r=>.op i g s o.2 r) (gu t35 t27) (ke t20 t29) (oP G X t32) (rn f (i+1)) x d K|2=>m2 .dr (ke t29 t30) (rn f j)|3=>m2 .nl (nl t43 t37 t32) (rn f j)|_=>m3 .both (nu t49) (rn f j) (rn f j):Rd c (Bu R)) x d K
def cd:Nat->List Nat->Rd c (Gn R)
 |0,_=>fun x d K=>K .dead x d|f+1,l=>fun x d K=>nu l x d fun h x d=>(match h with
  |0=>fun x d K=>K .skip x d|1=>m2 .region (fun x d K=>nu t38 x d fun n x d=>oL G X n t1 x d K) (kk t4 [[t46,t47],[t46,t47],[t49,t43]])|2=>m2 .U5 (rn G X 900 0) (kk t4 [[t46,t47],[t46,t47],[t49,t43]])|3=>m2 .seq (cd f t0) (cd f t40)|4=>m3 .join cu (cd f t51) (cd f t40)|5=>fun x z K=>sl t37 x z fun n x z=>(kk t49 [[t49,t49],[t43,t47],[t0,t0]]) x z fun t x y=>(kk t49 [[t49,t49],[t43,t47],[t0,t0]]) x z fun e x z=>cd f t51 x y fun a x y=>DP (z / 1024*1024+y % 1024) fun z=>cd f t17 x z fun b x z=>
   DP ((y / 1024 |||z / 1024)*1024+z % 1024) fun z=>K (.cond n t e a b) x z
  |6=>m2 .block (nu t41) (cd f t15)|7=>m2 .loop cu (cd f t36)|8=>m1 .exit (nu t41)|9=>fun x d K=>K .ret x d|10=>m1 .scope (cd f t15)|11=>m2 .or (cd f t15) (cd f t15)|12=>fun x d K=>K .dead x d|_=>m2 .AVR cu (cd f t36):Rd c (Gn R)) x d K
end
end
end
end Y
noncomputable section
open Y
def sB:List UInt8->Nat->Nat
 | [],a=>a|b::l,a=>DP b.toNat fun c=>DP (a*62+match Nat.blt c 58 with|true=>c-48|false=>match Nat.blt c 91 with|true=>c-55|false=>c-61) fun a=>sB l a
def sN:List String->Nat->Nat| [],a=>a|s::l,a=>DP (sB s.toByteArray.data.toList a) fun a=>sN l a
def dY{R:List GF}(n:List String)(G:List GF)(X:List (YOp R):=[]):Gn R:=DP (sN n 0) fun n=>cd G X 300 t36 n 0 fun a _ _=>a
def gZ(ps:List PK)(rk:RK)(rs:List HU)(n:List String)(G:List GF)(d:A ps->Option (Tu (rk.cs++La ps)))(X:List (YOp []):=[])
 (hd:∀a,(YF.mk [] ps [] rk rs (dY n G X)).run a=d a:=by intro a;kernel_rfl) (hp:ACQ ps=true:=by rfl)
 (hf:([]:List Nat).map (fun n=>(([]:List GF)[n]?).map GF.x)=(fX ps).map some:=by rfl):GF:=YF.gf ⟨[],ps,[],rk,rs,dY n G X⟩ hp hf d hd
def AQ1:List PK:=[.v .i,.v .i,.v .i]
def DM:RK:=.ret [.b]
def Ua:List HU:=[.tmp 6]
def ai:List PK:=[.v (.st 1)]
def DD:List HU:=[.tmp 2]
def aj:List PK:=[.v (.st 1),.v (.st 2),.v .i]
def XP:List PK:=[.v (.st 8)]
def qC:List PK:=[.v (.l .i),.v .i]
def Cv:List HU:=[.tmp 4]
def AQ9:List PK:=[.v (.st 4),.v (.st 4)]
def AEy:List PK:=[.v (.l (.st 4)),.v .i]
def DC:RK:=.ret [.i]
def ud:List PK:=[.v (.l (.st 4))]
def ZB:List PK:=[.v (.st 6)]
def VJ:RK:=.ret [(.l (.st 5))]
def ue:List PK:=[.v (.st 7)]
def uf:List PK:=[.v .i,.v .i]
def ZI:RK:=.ret [(.l (.st 4))]
def AEz:List PK:=[.v (.l (.st 4)),.v (.st 4)]
def AQ2:List PK:=[.v (.l (.st 4)),.v (.l (.st 4))]
def AQ3:List PK:=[.v (.l (.st 5)),.v (.st 5)]
def O6:List PK:=[.v (.l (.st 2)),.v .i]
def AQ4:List PK:=[.v (.l (.st 5)),.v (.l (.st 5))]
def AQ5:List PK:=[.v (.st 1),.v (.st 7),.v (.l (.st 2)),.v .i,.v .i]
def ug:List PK:=[.v (.st 9)]
def O7:List PK:=[.v (.st 10)]
def Sv:List PK:=[.v .i]
def ZC:List PK:=[.v (.st 11)]
def O8:RK:=.ret [(.l .i)]
def ZD:List PK:=[.v (.l .i)]
def O9:RK:=.ret [.s]
def ZE:List PK:=[.v (.l .u)]
def Fz:List PK:=[.v (.st 8),.v .i]
def AE1:RK:=.ret [(.st 1)]
def AE2:List HU:=[.cell 2 (some 9)]
def Sx:RK:=.ret [(.st 3),.b]
def uu:List HU:=[.cell 2 (some 15),.tmp 3]
def ZJ:RK:=.ret [(.st 11),.b]
def uw:List HU:=[.cell 2 (some 23),.tmp 3]
def ZK:RK:=.ret [(.st 9)]
def AE3:List HU:=[.cell 2 (some 2)]
def um:RK:=.ret [(.st 6)]
def ux:List HU:=[.cell 2 (some 1)]
def kO:RK:=.ret [(.st 7)]
def uy:List HU:=[.cell 2 (some 7)]
def kP:RK:=.ret [(.st 11)]
def kR:List HU:=[.cell 2 (some 23)]
def kQ:RK:=.ret [(.st 9),.b]
def kS:List HU:=[.cell 4 (some 2),.tmp 5]
def kU:List HU:=[.cell 4 (some 23),.tmp 5]
def N3:RK:=.ret [(.st 8)]
def AE4:List HU:=[.cell 2 (some 15)]
def Sw:List PK:=[.v .s]
def uo:RK:=.ret [(.l (.st 15))]
def ZF:List PK:=[.v (.st 10),.v .i]
def IA:List PK:=[.b (.st 17)]
def uh:List PK:=[.v (.st 6),.v (.st 5)]
def ZL:RK:=.ret [(.st 6),.b]
def uz:List HU:=[.cell 4 (some 1),.tmp 5]
def vA:List HU:=[.cell 4 (some 6)]
def vB:List HU:=[.cell 4 (some 2)]
def ZM:RK:=.ret [(.st 8),.i,.b]
def vC:List HU:=[.cell 2 (some 15),.tmp 3,.tmp 4]
def vD:List HU:=[.cell 4 (some 15),.tmp 5,.tmp 6]
def uq:RK:=.ret [(.l (.st 4)),.b]
def vE:List HU:=[.tmp 4,.tmp 5]
def kM:List PK:=[.v (.st 8),.v (.st 0)]
def ui:List PK:=[.v (.st 2),.v .i]
def uj:List PK:=[.o (.st 8),.v (.st 2)]
def VK:List HU:=[.cell 4 (some 15)]
def ZG:List PK:=[.v (.st 3),.v .i]
def ZO:List HU:=[.cell 4 (some 5),.tmp 5]
def AQ6:List PK:=[.v (.st 8),.v .i,.v .i,.v .i,.v .i,.v .i]
def Kn:RK:=.ret [(.st 8),.i]
def ARE:List HU:=[.cell 12 (some 15),.tmp 13]
def Mb:List HU:=[.cell 4 (some 15),.tmp 5]
def ARF:List HU:=[.cell 6 (some 15),.tmp 7]
def ARG:List HU:=[.cell 6 (some 10),.tmp 7]
def AE0:List PK:=[.o (.st 8),.v .i]
def ARA:RK:=.ret [(.st 8),(.l .i)]
def ARB:RK:=.ret [(.st 8),.i,(.l .i)]
def ARC:RK:=.ret [(.st 8),(.st 12)]
def ARH:List HU:=[.cell 4 (some 15),.cell 5 (some 2)]
def AQ7:List PK:=[.v (.st 8),.v (.l (.st 0))]
def ARD:RK:=.ret [(.st 8),(.l (.st 12))]
def ZH:List PK:=[.b (.st 3),.p .i]
def ZN:RK:=.ret []
def kN:List PK:=[.v (.st 9),.v .i]
def AQ8:List PK:=[.v (.st 10),.v .i,.v (.st 9)]
def ur:RK:=.ret [(.st 10)]
def uk:List PK:=[.v (.st 11),.v .i]
end
end Lv
