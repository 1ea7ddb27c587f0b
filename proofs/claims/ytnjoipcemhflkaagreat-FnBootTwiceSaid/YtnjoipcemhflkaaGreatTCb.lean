/- The typed machine is right about the light one. -/
import Derived.Test.YtnjoipcemhflkaaGreatTB
set_option linter.unusedVariables false
set_option linter.unusedSimpArgs false
set_option linter.unusedSectionVars false
namespace Lv
namespace Y
open Go (IntKind BinOp UnOp)
noncomputable section
def Rd(c a:Type):Type:=Nat->Nat->(a->Nat->Nat->c)->c
section
variable{c α β γ δ ε ζ:Type}
def gt:List α->Nat->α->α| [],_,a=>a|b::_,0,_=>b|_::l,n+1,a=>gt l n a
def rdE:List Nat->Nat->Nat->(Nat->Nat->c)->c
 | [],_,_,K=>K 0 0|e::l,r,q,K=>match Nat.blt r (e % 1024+1) with|true=>DT ((e % 1024+1)*q+r) fun x=>DT (e / 1024) fun s=>K s x|false=>rdE l (r-(e % 1024+1)) q K
def nu(l:List Nat):Rd c Nat:=fun x d K=>rdE l (x % 1024) (x / 1024) fun s x=>match Nat.beq s 999 with|true=>DT (x % 1024) fun s=>DT (x / 1024) fun x=>K s x d|false=>K s x d
def stp(z v:Nat):Nat:=(z / 1024 |||1 <<< (v+512))*1024+v
def dD(l:List Nat):Rd c Nat:=fun x z K=>nu l x z fun s x z=>DT (z % 1024+s-160) fun v=>DT (stp z v) fun z=>K v x z
def dA(l:List Nat):Rd c Nat:=fun x z K=>nu l x z fun v x z=>DT (stp z v) fun z=>K v x z
def sl(l:List Nat):Rd c Nat:=fun x z K=>nu l x z fun s x z=>DT (z % 1024+160-s) fun v=>K v x z
def m1(f:α->β)(a:Rd c α):Rd c β:=fun x d K=>a x d fun u x d=>K (f u) x d
def m2(f:α->β->γ)(a:Rd c α)(b:Rd c β):Rd c γ:=fun x d K=>a x d fun u x d=>b x d fun v x d=>K (f u v) x d
def m3(f:α->β->γ->δ)(a:Rd c α)(b:Rd c β)(e:Rd c γ):Rd c δ:=fun x d K=>a x d fun u x d=>b x d fun v x d=>e x d fun w x d=>K (f u v w) x d
def m4(f:α->β->γ->δ->ε)(a:Rd c α)(b:Rd c β)(e:Rd c γ)(g:Rd c δ):Rd c ε:=fun x d K=>a x d fun u x d=>m3 (f u) b e g x d K
def m5(f:α->β->γ->δ->ε->ζ)(a:Rd c α)(b:Rd c β)(e:Rd c γ)(g:Rd c δ)(h:Rd c ε):Rd c ζ:=fun x d K=>a x d fun u x d=>m4 (f u) b e g h x d K
def rep(m:Rd c α):Nat->Rd c (List α)|0=>fun x d K=>K [] x d|n+1=>m2 .cons m (rep m n)
def li(l:List Nat)(m:Rd c α):Rd c (List α):=fun x d K=>nu l x d fun n x d=>rep m n x d K
def kd(e:List Nat):Nat->Nat->Rd c (List Nat)|0,_=>fun x d K=>K [] x d|n+1,p=>fun x d K=>nu e x d fun s x d=>DT (p+s) fun v=>kd e n v x d fun r=>K (v::r)
def ke(l e:List Nat):Rd c (List Nat):=fun x d K=>nu l x d fun n x d=>kd e n 0 x d K
def kp(t:List (List (List Nat)))(d:Nat):Nat->Nat->Nat->Nat->Nat->Nat->(List Nat->Nat->c)->c
 |0,_,_,_,_,x,K=>K [] x|f+1,i,o,w,p,x,K=>match Nat.beq (o |||w) 0 with
  |true=>K [] x|false=>DT (o / 2) fun o'=>DT (w / 2) fun w'=>DT (i+1) fun j=>match Nat.beq ((o |||w) % 2) 0 with
   |true=>kp t d f j o' w' p x K|false=>rdE (gt (gt t (match Nat.beq i d with|true=>0|false=>1+w % 2) []) p []) (x % 1024) (x / 1024) fun s x=>match s with|0=>kp t d f j o' w' 0 x K|_=>kp t d f j o' w' 1 x fun r=>K (i::r)
def bits:List Nat->Nat->Nat| [],a=>a|i::r,a=>DT (a |||1 <<< i) fun a=>bits r a
def cN(l:List Nat):Rd c Nat:=fun x z K=>nu l x z fun v x z=>DT ((z / 1024 |||1 <<< (v+512))*1024+z % 1024) fun z=>K v x z
def ix(t:List α)(a:α)(l:List Nat):Rd c α:=m1 (fun n=>gt t n a) (nu l)
def t0:List Nat:=[1809,3174,2093,6181,4126,5138,1022976]
def t1:List Nat:=[377,7327,1179,13425,4174,10314,5141,14348,6155,3083,1022978]
def t2:List Nat:=[1269,3190,107,15463,7241,13377,8257,19508,16424,4131,21535,10268,24590,1022990,2058,6152]
def t3:List Nat:=[8031,8302,13360]
def t4:List Nat:=[617,16492,3128,6186,11305,7206,2079,10267,5141,24592,8204,1022979]
def t5:List Nat:=[1280,15613,2149,5219,6212,23619,10304,7197,4125,9240,3095]
def t6:List Nat:=[164352,1023219,183325,182296,178197,187407,179215,171023,175118,169996,174092,185356,186379,199691,219147,195595,191497,184329,177161,188425]
def t7:List Nat:=[164205,165107,1023161,165971,166949,159765,145426,157713,153612,160779,158731,168969]
def t8:List Nat:=[1023167,525474,409744,524333,162857,526376,150552,157717,158740,159763,155666,160785,147473,161807,154639,156686,544782,144398,153613,148493,151565,146444,149516,145417,529417,135177,139273,143368,152584,138248,141320,142343,137223,136199,140294]
def t9:List Nat:=[8849,1331,3123,1022981]
def t10:List Nat:=[449,6337,11350,1023043,3115,10280,517153,8221,16399,19470,2059,18443,23562,21513]
def t11:List Nat:=[7637,3487,1078,2087,4129,1022984]
def t12:List Nat:=[1315,199,5289,4195,7227,6195,2082,1023004,15383,3091,8209,13328,16390]
def t13:List Nat:=[165307,410876,409694,1023054,165933,411680,418828,414731,412683,415754,543753,413703,534535]
def t14:List Nat:=[3654,278,1136,2067,1022992,8203]
def t15:List Nat:=[602,8443,3191,1055,4110,1022977]
def t16:List Nat:=[1921,71,2072,4111,3084]
def t17:List Nat:=[33678,33826,1023001,34831,35849,29704,36870,28677,26627]
def t18:List Nat:=[930,1070,2072,3081,1022982,8195]
def t19:List Nat:=[209,7364,13446,16473,14419,8253,10296,15396,3097,1048,9234,5136,2064,19466,6153,11270,24580,1022980,17412,20484]
def t20:List Nat:=[1445,217,2192,10304,13357,12333,16424,1023016]
def t21:List Nat:=[165384,526838]
def t22:List Nat:=[525832,165366]
def t23:List Nat:=[11551,193,1201,2132,3135,13367,10282,8226,1023010,16404,15372,22539]
def t24:List Nat:=[394,7321,4217,9311,1115,17457,3111,20517,5142,12298,1022978]
def t25:List Nat:=[135,3174,5212,1023065,1103,6207,4155,2105,7223,8229,9249,10268,11279,18445,13325,409612,20491,16394,17418,12297,19464,14343,15367,24582,21510,23558,22532,35844,28675,58371,26627,25603,51203,30722,41986]
def t26:List Nat:=[168128,169109,170114,167022,171107,172127,173120,165925,177178,164883,174099,1022995,176144,175118,524298,179209]
def t27:List Nat:=[4314,5268,2173,7266,6239,3156,8249,1023032,9248,10266,11276,12297,13321,20487,17415,14343,16390,5,21508]
def t28:List Nat:=[165069,164043,166081,167047,168039,169028,170029,171030,172040,1022984,173064,175111,174086]
def t29:List Nat:=[165645,1023045,165917,166929,167950,169992,168967,171014,175110,172037,173061,179205,177156,181252,178180,174084,176132,161795,185347,182274,160770,180226,189442,183298,184322,188418,157697,186369,159745]
def t30:List Nat:=[1625,2319,99,3119,1022977]
def t31:List Nat:=[4071,1022999]
def t32:List Nat:=[164855,1022983]
def t33:List Nat:=[165243,166210,167034,167999,1023033,168978,169996,410635,174086,171014,176134,173061,178180]
def t34:List Nat:=[382,1344,2170,3134,4138,5143,6167,8204,7178,9222,10245,1022981]
def t35:List Nat:=[22064,1341,8336]
def t36:List Nat:=[3478,9425,5308,4183,1090,6202,1022979]
def t37:List Nat:=[717250,165265,1023085,410684]
def t38:List Nat:=[917,2103,1073]
def t39:List Nat:=[911,1135]
def t40:List Nat:=[2259,3262,1208,4201,5181,6204,1023029,8235,7207,9233,10251,14345,12296,11271,13316,16387,15362]
def t41:List Nat:=[165386,165970,166986,1023014,167971,410658,168993,409633,170006,171029,173068,175113,413704,177160,174087,529414,415750,412678,172038,178182,414725,176133,411653,471044,527364,181251,179203]
def t42:List Nat:=[165876,165894,1022979]
def t43:List Nat:=[645,1401]
def t44:List Nat:=[1013,1033]
def t45:List Nat:=[1977,1023003,15372,2054,9221,6149,8196,20484]
def t46:List Nat:=[460,1378,2255]
def t47:List Nat:=[1866,180]
def t48:List Nat:=[221,10425,16539,13450,17459,1065,8229,14364,24600,15384,7192,6162,5132,3083,18442,11273,19462,1022980,20483,12291]
def t49:List Nat:=[2407,1371,3326,6191,4104,1022979]
def t50:List Nat:=[221,1128,7256,2131,8268,4165,3133,11321,5167,9260,6180,12321,13343,14356,10256,15371,21508,22532,1022976]
def uT:List (U):=[.nil,.bool false,.bool true,.int .i64 1000000,.int .i64 999,.int .i64 (-1),.int .i64 1000008,.int .i64 1000001,.int .i64 20000,.int .i64 9999,.int .u64 1,.int .u64 4294967296,.int .u64 32,.int .u64 65536,.int .u64 16,.int .u64 256,.int .u64 8,.int .i64 2147483647,.int .i64 127,.int .i64 128,.str [],.int .i64 4294967295,.int .i64 3988292384,.int .u64 24,.int .i64 (-5),.int .i64 1048576,.np,.int .i64 28285,.int .i64 4000,.int .i64 131,.int .i64 1073741823,.int .i64 6364136223846793005,.int .i64 1442695040888963407,.int .u64 33,.int .u64 45,.int .i64 255,.int .i64 256,.int .i64 16777216,.int .i64 65536,.str [97],.str [115,111,109,101,32,98,121,116,101,115],.str [0,1,2,3],.int .i64 9223372036854775807,.int .i64 (-9223372036854775808)]
def hT:List (Sh):=[.one]
def cT:List (C):=[.i,.st 4,.st 6,.l (.st 5),.st 5,.st 0,.b,.st 2,.l (.st 4),.st 7,.st 8,.l .i,.st 12,.l (.st 12),.st 9,.m,.l (.st 2),.u,.l .u,.l (.st 7),.st 15,.l (.st 15),.st 10,.st 11,.l (.st 0),.st 1,.s]
def nT:List (List (Nat×C)):=[[(0,.i)],[(0,.st 4)],[(0,.l (.st 5))],[(5,.st 4),(6,.l (.st 5))],[(0,.i),(11,.st 2),(12,.st 7),(13,.i),(14,.i),(22,.st 0)],[(0,.st 5)],[(0,.st 2)],[(0,.i),(11,.st 2),(12,.st 7),(13,.i),(14,.i)],[(1,.i)],[(0,.st 12)],[(12,.st 7)],[(0,.u)],[(11,.st 2),(12,.st 7),(13,.i),(14,.i)],[(0,.st 15)],[(6,.l (.st 5))],[(0,.st 0)],[(22,.st 0)],[(5,.st 4)]]
def zT:List (List U):=[[.nil,.int .i64 0,.int .i64 0,.int .i64 0,.int .i64 0,.int .i64 0,.int .i64 0,.int .i64 0,.int .i64 0],[.nil],[.int .i64 0,.int .i64 0,.int .i64 0,.int .i64 0,.int .i64 0,.nil,.nil],[.nil,.int .i64 0,.int .i64 0,.int .i64 0,.int .i64 0,.int .i64 0,.int .i64 0,.int .i64 0,.int .i64 0,.int .i64 0,.int .i64 0,.nil,.nil,.nil,.nil,.str [],.int .i64 0,.str [],.int .i64 0,.str [],.int .i64 0,.int .i64 0,.nil],[.int .i64 0,.int .i64 0,.int .i64 0,.int .i64 0,.int .i64 0,.int .i64 0,.int .i64 0,.int .i64 0,.int .i64 0,.int .i64 0],[.int .i64 0,.int .i64 0,.int .i64 0,.int .i64 0],[.int .i64 0,.int .i64 0],[.int .i64 0,.int .i64 0,.int .i64 0,.int .i64 0,.int .i64 0,.int .i64 0],[.nil,.int .i64 0,.int .i64 0,.int .i64 0,.int .i64 0,.int .i64 0,.int .i64 0,.int .i64 0,.int .i64 0,.int .i64 0,.int .i64 0,.nil,.nil,.nil,.nil],[.int .i64 0,.int .i64 0,.int .i64 0,.int .i64 0,.int .i64 0],[.int .i64 0,.nil],[.str [],.int .i64 0],[.nil,.int .i64 0,.bool false],[.int .i64 0,.str [],.int .i64 0],[.str [],.int .i64 0,.str [],.int .i64 0,.str [],.int .i64 0],[.nil,.int .i64 0,.int .i64 0]]
def bT:List (Cls×BinOp):=[(.num,.lss),(.num,.add),(.num,.geq),(.num,.leq),(.num,.sub),(.num,.eql),(.num,.gtr),(.num,.neq),(.num,.rem),(.num,.quo),(.agg [.i,.i,.i,.i],.neq),(.agg [.i,.i],.neq),(.agg [.i,.i,.i,.i,.i,.i],.eql),(.num,.mul),(.agg [.i,.i],.eql),(.num,.shr),(.num,.xor),(.num,.and),(.num,.shl),(.num,.or),(.sl,.eql),(.agg [.i,.i,.i,.i,.i],.eql),(.agg [.i,.i,.i,.i,.i,.i,.i,.i,.i,.i],.neq),(.bool,.neq),(.agg [.s,.i,.s,.i,.s,.i],.eql)]
def UT:List (UnOp):=[.not]
def kT:List (IntKind):=[.u64,.i64,.u8]
def aT:List (AL):=[.num .u64,.val (.st 16) (some (.old 0)),.al (.cell 5 0),.val (.l .i) (some (.old 0)),.al (.cell 7 0),.val (.st 17) (some (.old 0))]
def pT:List (List Nat):=[t48,t35,t2,t35,t2,t2,t2,t48,t45,t2,t20,t46,t2,t3,t2,t2,t23,t48,t2,t2,t2,t9,t2,t2]
def kk(g:List Nat)(t:List (List (List Nat))):Rd c (List Nat):=fun x z K=>nu g x z fun s x z=>match s with|0=>kp t (z % 1024) 512 0 (z / 1024 % 2 ^ 512) (z / 1024 / 2 ^ 512) 1 x fun r x=>DT (bits r 0*1024+z % 1024) fun z=>K r x z|_=>ke t40 t34 x z fun r x z=>DT (bits r 0*1024+z % 1024) fun z=>K r x z
def od(l:List Nat)(q:Nat->Nat->Nat:=fun z s=>z % 1024+160-s):Rd c YO:=fun x d K=>nu l x d fun s x d=>match Nat.blt s 400 with
 |true=>DT (q d s) fun v=>K (.tmp v) x d|false=>match Nat.blt s 512 with|true=>DT (s-400) fun v=>K (.k (.int .i64 (Int.ofNat v))) x d|false=>K (.k (gt uT (s-512) .nil)) x d
def oo(l:List Nat):Rd c (Option YO):=fun x d K=>nu l x d fun s x d=>match Nat.blt s 400 with
 |true=>DT (d % 1024+160-s) fun v=>K (some (.tmp v)) x d|false=>match Nat.blt s 512 with
  |true=>DT (s-400) fun v=>K (some (.k (.int .i64 (Int.ofNat v)))) x d|false=>match Nat.blt s 700 with|true=>K (some (.k (gt uT (s-512) .nil))) x d|false=>K none x d
def on(l:List Nat):Rd c (Option Nat):=m1 (fun n=>match n with|0=>none|n+1=>some n) (nu l)
def bo(l:List Nat):Rd c Bool:=m1 (fun n=>match n with|0=>false|_=>true) (nu l)
def gu(l e:List Nat):Rd c (Option (Nat×Bool)):=fun x d K=>nu l x d fun s x d=>match s with|0=>K none x d|1=>sl e x d fun v=>K (some (v,false))|_=>sl e x d fun v=>K (some (v,true))
def nl(a b e:List Nat):Rd c (List (CH×C)):=m3 (fun k s p=>p.map fun q=>(match k with|false=>.cell s q.1|true=>.tmp s q.1,q.2)) (bo a) (sl b) (ix nT [] e)
def aL(l:List Nat):Rd c AL:=fun x d K=>nu l x d fun s x d=>match Nat.blt s 500 with|true=>K (.val (gt cT s .i) none) x d|false=>K (gt aT (s-500) (.num .i64)) x d
def cu:Rd c Cut:=li t30 (m4 (fun b n h a=>(b,n,h,a)) (bo t39) (cN t25) (ix hT .one t44) (li t45 (aL t10)))
variable{R:List GF}
def cl(d:Nat)(g:Option GF)(l:List YO):YOp R:=match g with
 |none=>.bad none|some g=>match h:fX g.ps with| []=>.call d g [] (by rw[h];rfl) l|_::_=>.bad none
section
variable(G:List GF)(X:List (YOp R))
def oq:Nat->Rd c (YOp R)|0=>m2 .mv (dD t29) (od t25 fun _ s=>s)|1=>m2 .as (dA t27) (od t8)|2=>m4 .pick (dD t42) (od t26) (od t21) (od t22)|3=>m2 .alloc (dA t27) (ix zT [] t50)|4=>m2 .box (dD t33) (od t33)|5=>m3 .build (dD t42) (ix zT [] t50) (li t34 (m3 (fun a b e=>(a,b,e)) (nu t50) (nu t45) (od t41)))|6=>m4 .CF (dD t29) (nu t34) (ix cT .i t24) (li t34 (m2 .mk (nu t34) (od t41)))|7=>m3 .ld (dD t29) (on t4) (od t29)|8=>m3 .st (nu t5) (od t6) (od t7)|9=>m2 .chk (dD t42) (od t41)|10=>m4 (fun d b x y=>.bin d b.1 b.2 x y) (dD t29) (ix bT (.num,.add) t12) (od t33) (od t13)|11=>m3 .un (dD t42) (ix UT .not t44) (od t42)|12=>m3 .cvI (dD t42) (ix kT .i64 t30) (od t42)|13=>m3 .fa (dD t29) (nu t50) (od t40 fun _ s=>s)|14=>m4 .ia (dD t42) (ix cT .i t24) (od t33) (od t41)|15=>m3 .ext (dD t41) (od t26) (nu t46)|16=>m3 cl (dD t29) (ix (G.map some) none t34) (li t49 (od t41))|17=>m2 .len (dD t42) (od t42)|18=>m2 .lens (dD t42) (od t42)|19=>m5 .app (dD t29) (ix cT .i t24) (bo t47) (od t26) (od t42)|20=>m5 .sub (dD t42) (ix cT .i t24) (od t33) (oo t37) (oo t37)|21=>m1 .VZ (nl t43 t32 t50)|22=>m2 .Ox (dD t42) (od t42)|23=>m4 .Vq (dD t42) (od t28) (oo t37) (oo t37)|_=>ix X (.bad none) t34
def oP(l:List Nat):Rd c (Nat×YOp R):=fun x d K=>nu l x d fun h x d=>oq G X h x d fun o=>K (h,o)
def oL:Nat->List Nat->Rd c (List (Option (Nat×Bool)×YOp R))|0,_=>fun x d K=>K [] x d|n+1,l=>fun x d K=>gu t38 t28 x d fun g x d=>oP G X l x d fun o x d=>oL n (gt pT o.1 t2) x d fun r=>K ((g,o.2)::r)
def rn:Nat->Nat->Rd c (Bw R)
 |0,_=>fun x d K=>K .nil x d|f+1,j=>fun x d K=>nu t16 x d fun h x d=>(match h with
  |0=>fun x d K=>K .nil x d|1=>fun x d K=>nu t17 x d fun i x d=>DT (j+i-32) fun i=>m4 (fun g s o r=>.op i g s o.2 r) (gu t38 t28) (ke t18 t25) (oP G X t19) (rn f (i+1)) x d K|2=>m2 .dr (ke t27 t45) (rn f j)|3=>m2 .nl (nl t39 t32 t27) (rn f j)|_=>m3 .both (nu t44) (rn f j) (rn f j):Rd c (Bw R)) x d K
def cd:Nat->List Nat->Rd c (Gv R)
 |0,_=>fun x d K=>K .dead x d|f+1,l=>fun x d K=>nu l x d fun h x d=>(match h with
  |0=>fun x d K=>K .skip x d|1=>m2 .region (fun x d K=>nu t40 x d fun n x d=>oL G X n t1 x d K) (kk t39 [[t47,t47],[t43,t47],[t44,t43]])|2=>m2 .VE (rn G X 900 0) (kk t39 [[t47,t47],[t43,t47],[t44,t43]])|3=>m2 .seq (cd f t0) (cd f t36)|4=>m3 .join cu (cd f t49) (cd f t36)|5=>fun x z K=>sl t32 x z fun n x z=>(kk t44 [[t44,t44],[t43,t47],[t0,t0]]) x z fun t x y=>(kk t44 [[t44,t44],[t43,t47],[t0,t0]]) x z fun e x z=>cd f t14 x y fun a x y=>DT (z / 1024*1024+y % 1024) fun z=>cd f t15 x z fun b x z=>
   DT ((y / 1024 |||z / 1024)*1024+z % 1024) fun z=>K (.cond n t e a b) x z
  |6=>m2 .block (nu t34) (cd f t11)|7=>m2 .loop cu (cd f t31)|8=>m1 .exit (nu t34)|9=>fun x d K=>K .ret x d|10=>m1 .scope (cd f t11)|11=>m2 .or (cd f t11) (cd f t11)|12=>fun x d K=>K .dead x d|_=>m2 .AW0 cu (cd f t31):Rd c (Gv R)) x d K
end
end
end
end Y
noncomputable section
open Y
def sB:List UInt8->Nat->Nat
 | [],a=>a|b::l,a=>DT b.toNat fun c=>DT (a*62+match Nat.blt c 58 with|true=>c-48|false=>match Nat.blt c 91 with|true=>c-55|false=>c-61) fun a=>sB l a
def sN:List String->Nat->Nat| [],a=>a|s::l,a=>DT (sB s.toByteArray.data.toList a) fun a=>sN l a
def dY{R:List GF}(n:List String)(G:List GF)(X:List (YOp R):=[]):Gv R:=DT (sN n 0) fun n=>cd G X 300 t31 n 0 fun a _ _=>a
def gZ(ps:List PK)(rk:RK)(rs:List Hu)(n:List String)(G:List GF)(d:A ps->Option (Tu (rk.cs++Lb ps)))(X:List (YOp []):=[])
 (hd:∀a,(YF.mk [] ps [] rk rs (dY n G X)).run a=d a:=by intro a;kernel_rfl) (hp:AEF ps=true:=by rfl)
 (hf:([]:List Nat).map (fun n=>(([]:List GF)[n]?).map GF.x)=(fX ps).map some:=by rfl):GF:=YF.gf ⟨[],ps,[],rk,rs,dY n G X⟩ hp hf d hd
def ASW:List PK:=[.v .i,.v .i,.v .i]
def C1:RK:=.ret [.b]
def Ui:List Hu:=[.tmp 6]
def Su:List PK:=[.v (.st 1)]
def DA:List Hu:=[.tmp 2]
def bW:List PK:=[.v (.st 1),.v (.st 2),.v .i]
def Xi:List PK:=[.v (.st 8)]
def sK:List PK:=[.v (.l .i),.v .i]
def Ca:List Hu:=[.tmp 4]
def ASe:List PK:=[.v (.st 4),.v (.st 4)]
def AHU:List PK:=[.v (.l (.st 4)),.v .i]
def C9:RK:=.ret [.i]
def xQ:List PK:=[.v (.l (.st 4))]
def Zc:List PK:=[.v (.st 6)]
def Zk:RK:=.ret [(.l (.st 5))]
def xR:List PK:=[.v (.st 7)]
def xS:List PK:=[.v .i,.v .i]
def xX:RK:=.ret [(.l (.st 4))]
def ASX:List PK:=[.v (.l (.st 4)),.v (.st 4)]
def ASY:List PK:=[.v (.l (.st 4)),.v (.l (.st 4))]
def ASZ:List PK:=[.v (.l (.st 5)),.v (.st 5)]
def O2:List PK:=[.v (.l (.st 2)),.v .i]
def ASa:List PK:=[.v (.l (.st 5)),.v (.l (.st 5))]
def ASb:List PK:=[.v (.st 1),.v (.st 7),.v (.l (.st 2)),.v .i,.v .i]
def mI:List PK:=[.v (.st 9)]
def Ma:List PK:=[.v (.st 10)]
def O3:List PK:=[.v .i]
def AbZ:RK:=.ret [(.l .i)]
def N0:RK:=.ret [(.l .u)]
def Acr:List PK:=[.v (.l .i)]
def AbN:RK:=.ret [.s]
def Acs:List PK:=[.v (.l .u)]
def Zf:List PK:=[.v (.st 8),.v .i]
def Agn:RK:=.ret [(.st 1)]
def Agq:List Hu:=[.cell 2 (some 9)]
def Abv:RK:=.ret [(.st 3),.b]
def AfP:List Hu:=[.cell 2 (some 15),.tmp 3]
def AHa:RK:=.ret [(.st 11),.b]
def mK:List Hu:=[.cell 2 (some 23),.tmp 3]
def Sv:RK:=.ret [(.st 9)]
def Zp:List Hu:=[.cell 2 (some 2)]
def Sw:RK:=.ret [(.st 9),.b]
def xb:List Hu:=[.cell 4 (some 2),.tmp 5]
def Agr:List Hu:=[.cell 4 (some 23),.tmp 5]
def Abm:RK:=.ret [(.st 8)]
def Agl:List PK:=[.v (.l .u),.v .i]
def Abe:List PK:=[.v .s]
def AfO:RK:=.ret [(.l (.st 15))]
def Aef:List PK:=[.v (.st 10),.v .i]
def AbY:List PK:=[.b (.st 17)]
def AHW:List PK:=[.b (.st 17),.v .i]
def Ago:RK:=.ret [(.l (.st 2))]
def AfL:List PK:=[.v (.st 6),.v (.st 5)]
def Acw:RK:=.ret [(.st 6),.b]
def AfQ:List Hu:=[.cell 4 (some 1),.tmp 5]
def AfR:List Hu:=[.cell 4 (some 6)]
def AfS:List Hu:=[.cell 4 (some 2)]
def Acx:RK:=.ret [(.st 8),.i,.b]
def AfT:List Hu:=[.cell 2 (some 15),.tmp 3,.tmp 4]
def xc:List Hu:=[.cell 4 (some 15),.tmp 5,.tmp 6]
def Aeg:List PK:=[.v (.st 8),.v (.st 0)]
def AfM:List PK:=[.v (.st 2),.v .i]
def AfN:List PK:=[.o (.st 8),.v (.st 2)]
def xg:List Hu:=[.cell 4 (some 15)]
def Acu:List PK:=[.v (.st 3),.v .i]
def Acy:List Hu:=[.cell 4 (some 5),.tmp 5]
def xU:List PK:=[.v (.st 8),.v .i,.v .i,.v .i,.v .i,.v .i]
def AbL:RK:=.ret [(.st 8),.i]
def VU:List Hu:=[.cell 12 (some 15),.tmp 13]
def Agp:RK:=.ret [(.l (.st 4)),.b]
def Zs:List Hu:=[.tmp 4,.tmp 5]
def AbS:List Hu:=[.cell 4 (some 15),.tmp 5]
def AiP:List Hu:=[.cell 6 (some 15),.tmp 7]
def ASl:List Hu:=[.cell 6 (some 10),.tmp 7]
def Agm:List PK:=[.o (.st 8),.v .i]
def AiM:RK:=.ret [(.st 8),(.l .i)]
def AiN:RK:=.ret [(.st 8),.i,(.l .i)]
def AiO:RK:=.ret [(.st 8),(.st 12)]
def ASn:List Hu:=[.cell 4 (some 15),.cell 5 (some 2)]
def AHY:List PK:=[.v (.st 8),.v (.l (.st 0))]
def ASg:RK:=.ret [(.st 8),(.l (.st 12))]
def Acv:List PK:=[.b (.st 3),.p .i]
def ASi:RK:=.ret []
def Aeh:List PK:=[.v (.st 9),.v .i]
def Abz:RK:=.ret [(.st 10)]
def AfU:List Hu:=[.cell 2 (some 6)]
end
end Lv
