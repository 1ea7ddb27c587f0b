/- The typed machine is right about the light one. -/
import Derived.Test.YtnjoipcemhflkaaGreatTBc
set_option linter.unusedVariables false
set_option linter.unusedSimpArgs false
set_option linter.unusedSectionVars false
namespace Lv
namespace Y
open Go (IntKind BinOp UnOp)
noncomputable section
def Rd(c a:Type):Type:=Nat->Nat->(a->Nat->Nat->c)->c
section
variable{c α β γ δ ε ζ:Type}
def gt:List α->Nat->α->α| [],_,a=>a|b::_,0,_=>b|_::l,n+1,a=>gt l n a
def rdE:List Nat->Nat->Nat->(Nat->Nat->c)->c
 | [],_,_,K=>K 0 0|e::l,r,q,K=>match Nat.blt r (e % 1024+1) with|true=>DB ((e % 1024+1)*q+r) fun x=>DB (e / 1024) fun s=>K s x|false=>rdE l (r-(e % 1024+1)) q K
def nu(l:List Nat):Rd c Nat:=fun x d K=>rdE l (x % 1024) (x / 1024) fun s x=>match Nat.beq s 999 with|true=>DB (x % 1024) fun s=>DB (x / 1024) fun x=>K s x d|false=>K s x d
def stp(z v:Nat):Nat:=(z / 1024 |||1 <<< (v+512))*1024+v
def dD(l:List Nat):Rd c Nat:=fun x z K=>nu l x z fun s x z=>DB (z % 1024+s-160) fun v=>DB (stp z v) fun z=>K v x z
def dA(l:List Nat):Rd c Nat:=fun x z K=>nu l x z fun v x z=>DB (stp z v) fun z=>K v x z
def sl(l:List Nat):Rd c Nat:=fun x z K=>nu l x z fun s x z=>DB (z % 1024+160-s) fun v=>K v x z
def m1(f:α->β)(a:Rd c α):Rd c β:=fun x d K=>a x d fun u x d=>K (f u) x d
def m2(f:α->β->γ)(a:Rd c α)(b:Rd c β):Rd c γ:=fun x d K=>a x d fun u x d=>b x d fun v x d=>K (f u v) x d
def m3(f:α->β->γ->δ)(a:Rd c α)(b:Rd c β)(e:Rd c γ):Rd c δ:=fun x d K=>a x d fun u x d=>b x d fun v x d=>e x d fun w x d=>K (f u v w) x d
def m4(f:α->β->γ->δ->ε)(a:Rd c α)(b:Rd c β)(e:Rd c γ)(g:Rd c δ):Rd c ε:=fun x d K=>a x d fun u x d=>m3 (f u) b e g x d K
def m5(f:α->β->γ->δ->ε->ζ)(a:Rd c α)(b:Rd c β)(e:Rd c γ)(g:Rd c δ)(h:Rd c ε):Rd c ζ:=fun x d K=>a x d fun u x d=>m4 (f u) b e g h x d K
def rep(m:Rd c α):Nat->Rd c (List α)|0=>fun x d K=>K [] x d|n+1=>m2 .cons m (rep m n)
def li(l:List Nat)(m:Rd c α):Rd c (List α):=fun x d K=>nu l x d fun n x d=>rep m n x d K
def kd(e:List Nat):Nat->Nat->Rd c (List Nat)|0,_=>fun x d K=>K [] x d|n+1,p=>fun x d K=>nu e x d fun s x d=>DB (p+s) fun v=>kd e n v x d fun r=>K (v::r)
def ke(l e:List Nat):Rd c (List Nat):=fun x d K=>nu l x d fun n x d=>kd e n 0 x d K
def kp(t:List (List (List Nat)))(d:Nat):Nat->Nat->Nat->Nat->Nat->Nat->(List Nat->Nat->c)->c
 |0,_,_,_,_,x,K=>K [] x|f+1,i,o,w,p,x,K=>match Nat.beq (o |||w) 0 with
  |true=>K [] x|false=>DB (o / 2) fun o'=>DB (w / 2) fun w'=>DB (i+1) fun j=>match Nat.beq ((o |||w) % 2) 0 with
   |true=>kp t d f j o' w' p x K|false=>rdE (gt (gt t (match Nat.beq i d with|true=>0|false=>1+w % 2) []) p []) (x % 1024) (x / 1024) fun s x=>match s with|0=>kp t d f j o' w' 0 x K|_=>kp t d f j o' w' 1 x fun r=>K (i::r)
def bits:List Nat->Nat->Nat| [],a=>a|i::r,a=>DB (a |||1 <<< i) fun a=>bits r a
def cN(l:List Nat):Rd c Nat:=fun x z K=>nu l x z fun v x z=>DB ((z / 1024 |||1 <<< (v+512))*1024+z % 1024) fun z=>K v x z
def ix(t:List α)(a:α)(l:List Nat):Rd c α:=m1 (fun n=>gt t n a) (nu l)
def t0:List Nat:=[1820,3172,2093,6179,4123,5134,1022976]
def t1:List Nat:=[377,7336,1178,13428,4176,10315,5132,6155,3083,14344,1022977]
def t2:List Nat:=[1261,3202,113,15459,13385,7233,8255,16432,4142,19502,10265,21525,2060,24588,6153,1022985]
def t3:List Nat:=[7994,8351,13348]
def t4:List Nat:=[590,16501,3125,6191,11308,2083,24608,10269,7195,5146,8204,1022976]
def t5:List Nat:=[1323,15612,5221,2137,23640,10305,4134,7202,6166,9233,1022984]
def t6:List Nat:=[164384,1023225,183325,204828,182298,178199,175120,179214,171022,174093,169995,191499,195595,187402,200714]
def t7:List Nat:=[165188,164146,1023125,165964,166952,159772,145424,157712,160781,153613,150538,158730,156682]
def t8:List Nat:=[1023164,525468,409747,162878,524328,526374,158744,157717,160789,159765,150548,155664,123920,148494,154638,149518,147470,151566,153613,161805,156684,146444,144395,544779,529418,138248,145415,143367,135175,152583,139271,142343,122886,137222,136197]
def t9:List Nat:=[8815,1328,3166]
def t10:List Nat:=[7632,3475,1087,2098,4125,1022985]
def t11:List Nat:=[570,8435,3240,1050,1022988]
def t12:List Nat:=[1920,72,2070,4111,3086]
def t13:List Nat:=[33685,33825,1022995,34832,29703,36869,28677,35845,26628,27651]
def t14:List Nat:=[929,1064,2072,3089,1022985]
def t15:List Nat:=[210,7365,13450,16462,14412,8255,10294,15404,3096,1046,19475,9235,2065,6157,5131,11270,17413,20484,24579,1022977]
def t16:List Nat:=[1498,196,2182,13365,10293,12327,16422,1023005]
def t17:List Nat:=[2538,1348,3253,1022991,6153]
def t18:List Nat:=[165395,526827]
def t19:List Nat:=[525843,165355]
def t20:List Nat:=[11545,1204,176,2136,3155,13381,10285,8224,1023007,16399,15373]
def t21:List Nat:=[1950,8242,13352,1022980]
def t22:List Nat:=[169,1023079,5208,1109,3149,6209,4157,7224,2101,8234,9247,10269,11282,13325,20491,16395,18443,17419,409611,14344,12295,15366,21510,24582,48133,19461,23557,22531]
def t23:List Nat:=[166389,165182,167064,168981,167950,169996]
def t24:List Nat:=[370,1350,2169,3134,4137,5151,6168,8204,7179,1022985,9222]
def t25:List Nat:=[389,6373,1023047,10307,3127,515125,11315,8236,2068,23566,18442,16393]
def t26:List Nat:=[168106,169087,167036,170099,172127,171097,173107,175152,176173,165922,177180,174105,164884,1022990,524301,179210]
def t27:List Nat:=[165509,1023067,165919,166940,167957,170003,171025,168975,175118,173068,172042,174089,176136,177160,179207,178183,181254,153606,183300,180228,160771,189443,184323,185347,157699,190467,186370,182274,188418,159746,187394,156674]
def t28:List Nat:=[22130,1270,8341]
def t29:List Nat:=[3465,9421,5322,4189,1085,6204,1022979]
def t30:List Nat:=[1985,1022997,37898,15369,9222,20485,6149]
def t31:List Nat:=[4071,1022999]
def t32:List Nat:=[2265,3279,1201,4205,5185,1023030,6197,8231,7207,9232,10250,14346,12295,11267,13315]
def t33:List Nat:=[164855,1022983]
def t34:List Nat:=[929,1117]
def t35:List Nat:=[914,2105,1074]
def t36:List Nat:=[165736,1023027,165923,166929,167946,168966,171011,169987,178179,179202,161794,176130,172034,182274]
def t37:List Nat:=[165381,166027,167003,1023048,167967,410652,409627,168980,169999,172041,529415,171014,413702,175109,174085,415748,471044,527364,173059,411651,177155,414723]
def t38:List Nat:=[518,1520,2055]
def t39:List Nat:=[709,1337]
def t40:List Nat:=[165887]
def t41:List Nat:=[166140,165043,164003,167044,168053,169019,170022,171026,1022988,173064,175111,172039,174087,177157,176133]
def t42:List Nat:=[208,1124,6224,2127,8271,4164,3139,11319,5171,9266,12327,7205,13338,10259,14352,15372,22540,21512]
def t43:List Nat:=[3577,1261,162,6205,2089,4106,1022977]
def t44:List Nat:=[4285,5251,2176,3200,6224,1023048,7232,8234,9249,10267,34832,13326,38924,11275,18441,15367,16390,12294,17414,20486,21509,14341,19460]
def t45:List Nat:=[1016,1030]
def t46:List Nat:=[224,1238,5279,4219,7256,9259,6176,3104,2073,17425,1022989,15372,8201,13321,12297]
def t47:List Nat:=[213,10429,16548,13459,17455,8234,1060,7201,14362,24597,15381,6161,5131,3082,18437,12293,1022981,9220,11268,19460]
def t48:List Nat:=[1523,2371,159,3109,1022977]
def t49:List Nat:=[165295,410862,409697,1023044,411681,165920,716823,418831,412685,413708,414732,417802,415753,534536,543752]
def t50:List Nat:=[1871,175]
def uT:List (U):=[.nil,.bool false,.bool true,.int .i64 1000000,.int .i64 999,.int .i64 (-1),.int .i64 1000008,.int .i64 1000001,.int .i64 20000,.int .i64 9999,.int .u64 1,.int .u64 4294967296,.int .u64 32,.int .u64 65536,.int .u64 16,.int .u64 256,.int .u64 8,.int .i64 2147483647,.int .i64 127,.int .i64 128,.str [],.int .i64 4294967295,.int .i64 3988292384,.int .u64 24,.int .i64 (-5),.int .i64 1048576,.np,.int .i64 28285,.int .i64 4000,.int .i64 131,.int .i64 1073741823,.int .i64 6364136223846793005,.int .i64 1442695040888963407,.int .u64 33,.int .u64 45,.int .i64 255,.int .i64 256,.int .i64 16777216,.int .i64 65536,.int .i64 1000,.int .i64 10000,.int .i64 9223372036854775807,.int .i64 (-9223372036854775808),.int .i64 (-9),.int .i64 1000009,.int .i64 1000002,.str [48,49,50,51,52,53,54,55,56,57],.int .i64 19989,.int .i64 19990,.int .i64 999999,.int .i64 30000]
def hT:List (Sh):=[.one]
def cT:List (C):=[.i,.st 4,.st 6,.l (.st 5),.st 5,.st 0,.b,.st 2,.l (.st 4),.st 7,.st 8,.l .i,.st 12,.l (.st 12),.st 9,.m,.l (.st 2),.u,.l .u,.l (.st 7),.st 15,.l (.st 15),.st 10,.st 11,.st 1,.st 3,.s]
def nT:List (List (Nat×C)):=[[(0,.i)],[(0,.st 4)],[(0,.l (.st 5))],[(5,.st 4),(6,.l (.st 5))],[(0,.i),(11,.st 2),(12,.st 7),(13,.i),(14,.i),(22,.st 0)],[(0,.st 5)],[(0,.i),(11,.st 2),(12,.st 7),(13,.i),(14,.i)],[(0,.st 2)],[(1,.i)],[(0,.st 12)],[(12,.st 7)],[(22,.st 0)],[(0,.u)],[(11,.st 2),(12,.st 7),(13,.i),(14,.i)],[(0,.st 15)],[(5,.st 4)]]
def zT:List (List U):=[[.nil,.int .i64 0,.int .i64 0,.int .i64 0,.int .i64 0,.int .i64 0,.int .i64 0,.int .i64 0,.int .i64 0],[.nil],[.int .i64 0,.int .i64 0,.int .i64 0,.int .i64 0,.int .i64 0,.nil,.nil],[.nil,.int .i64 0,.int .i64 0,.int .i64 0,.int .i64 0,.int .i64 0,.int .i64 0,.int .i64 0,.int .i64 0,.int .i64 0,.int .i64 0,.nil,.nil,.nil,.nil,.str [],.int .i64 0,.str [],.int .i64 0,.str [],.int .i64 0,.int .i64 0,.nil],[.int .i64 0,.int .i64 0,.int .i64 0,.int .i64 0,.int .i64 0,.int .i64 0,.int .i64 0,.int .i64 0,.int .i64 0,.int .i64 0],[.int .i64 0,.int .i64 0,.int .i64 0,.int .i64 0],[.int .i64 0,.int .i64 0],[.int .i64 0,.int .i64 0,.int .i64 0,.int .i64 0,.int .i64 0,.int .i64 0],[.nil,.int .i64 0,.int .i64 0,.int .i64 0,.int .i64 0,.int .i64 0,.int .i64 0,.int .i64 0,.int .i64 0,.int .i64 0,.int .i64 0,.nil,.nil,.nil,.nil],[.int .i64 0,.int .i64 0,.int .i64 0,.int .i64 0,.int .i64 0],[.int .i64 0,.nil],[.str [],.int .i64 0],[.nil,.int .i64 0,.bool false],[.int .i64 0,.str [],.int .i64 0],[.str [],.int .i64 0,.str [],.int .i64 0,.str [],.int .i64 0],[.nil,.int .i64 0,.int .i64 0]]
def bT:List (Cls×BinOp):=[(.num,.lss),(.num,.add),(.num,.geq),(.num,.leq),(.num,.sub),(.num,.eql),(.num,.gtr),(.num,.neq),(.num,.rem),(.num,.quo),(.agg [.i,.i,.i,.i],.neq),(.agg [.i,.i],.neq),(.agg [.i,.i,.i,.i,.i,.i],.eql),(.num,.mul),(.agg [.i,.i],.eql),(.num,.shr),(.num,.xor),(.num,.and),(.num,.shl),(.num,.or),(.agg [.i,.i,.i,.i,.i],.eql),(.agg [.i,.i,.i,.i,.i,.i,.i,.i,.i,.i],.neq)]
def UT:List (UnOp):=[.not]
def kT:List (IntKind):=[.u64,.i64,.u8]
def aT:List (AL):=[.num .u64,.val (.st 16) (some (.old 0)),.al (.cell 5 0),.val (.st 17) (some (.old 0))]
def pT:List (List Nat):=[t47,t28,t2,t28,t2,t2,t2,t47,t21,t2,t16,t48,t2,t3,t2,t2,t20,t47,t2,t2,t2,t9,t2,t2]
def kk(g:List Nat)(t:List (List (List Nat))):Rd c (List Nat):=fun x z K=>nu g x z fun s x z=>match s with|0=>kp t (z % 1024) 512 0 (z / 1024 % 2 ^ 512) (z / 1024 / 2 ^ 512) 1 x fun r x=>DB (bits r 0*1024+z % 1024) fun z=>K r x z|_=>ke t32 t24 x z fun r x z=>DB (bits r 0*1024+z % 1024) fun z=>K r x z
def od(l:List Nat)(q:Nat->Nat->Nat:=fun z s=>z % 1024+160-s):Rd c YO:=fun x d K=>nu l x d fun s x d=>match Nat.blt s 400 with
 |true=>DB (q d s) fun v=>K (.tmp v) x d|false=>match Nat.blt s 512 with|true=>DB (s-400) fun v=>K (.k (.int .i64 (Int.ofNat v))) x d|false=>K (.k (gt uT (s-512) .nil)) x d
def oo(l:List Nat):Rd c (Option YO):=fun x d K=>nu l x d fun s x d=>match Nat.blt s 400 with
 |true=>DB (d % 1024+160-s) fun v=>K (some (.tmp v)) x d|false=>match Nat.blt s 512 with
  |true=>DB (s-400) fun v=>K (some (.k (.int .i64 (Int.ofNat v)))) x d|false=>match Nat.blt s 700 with|true=>K (some (.k (gt uT (s-512) .nil))) x d|false=>K none x d
def on(l:List Nat):Rd c (Option Nat):=m1 (fun n=>match n with|0=>none|n+1=>some n) (nu l)
def bo(l:List Nat):Rd c Bool:=m1 (fun n=>match n with|0=>false|_=>true) (nu l)
def gu(l e:List Nat):Rd c (Option (Nat×Bool)):=fun x d K=>nu l x d fun s x d=>match s with|0=>K none x d|1=>sl e x d fun v=>K (some (v,false))|_=>sl e x d fun v=>K (some (v,true))
def nl(a b e:List Nat):Rd c (List (B0×C)):=m3 (fun k s p=>p.map fun q=>(match k with|false=>.cell s q.1|true=>.tmp s q.1,q.2)) (bo a) (sl b) (ix nT [] e)
def aL(l:List Nat):Rd c AL:=fun x d K=>nu l x d fun s x d=>match Nat.blt s 500 with|true=>K (.val (gt cT s .i) none) x d|false=>K (gt aT (s-500) (.num .i64)) x d
def cu:Rd c Cut:=li t48 (m4 (fun b n h a=>(b,n,h,a)) (bo t39) (cN t22) (ix hT .one t45) (li t30 (aL t25)))
variable{R:List GF}
def cl(d:Nat)(g:Option GF)(l:List YO):YOp R:=match g with
 |none=>.bad none|some g=>match h:fX g.ps with| []=>.call d g [] (by rw[h];rfl) l|_::_=>.bad none
section
variable(G:List GF)(X:List (YOp R))
def oq:Nat->Rd c (YOp R)|0=>m2 .mv (dD t27) (od t22 fun _ s=>s)|1=>m2 .as (dA t44) (od t8)|2=>m4 .pick (dD t36) (od t26) (od t18) (od t19)|3=>m2 .alloc (dA t44) (ix zT [] t42)|4=>m2 .box (dD t23) (od t23)|5=>m3 .build (dD t36) (ix zT [] t42) (li t24 (m3 (fun a b e=>(a,b,e)) (nu t42) (nu t30) (od t27)))|6=>m4 .Br (dD t36) (nu t24) (ix cT .i t46) (li t24 (m2 .mk (nu t24) (od t37)))|7=>m3 .ld (dD t36) (on t4) (od t27)|8=>m3 .st (nu t5) (od t6) (od t7)|9=>m2 .chk (dD t40) (od t27)|10=>m4 (fun d b x y=>.bin d b.1 b.2 x y) (dD t36) (ix bT (.num,.add) t46) (od t37) (od t49)|11=>m3 .un (dD t40) (ix UT .not t45) (od t40)|12=>m3 .cvI (dD t36) (ix kT .i64 t48) (od t40)|13=>m3 .fa (dD t36) (nu t42) (od t32 fun _ s=>s)|14=>m4 .ia (dD t40) (ix cT .i t46) (od t41) (od t37)|15=>m3 .ext (dD t27) (od t26) (nu t38)|16=>m3 cl (dD t36) (ix (G.map some) none t24) (li t17 (od t37))|17=>m2 .len (dD t40) (od t40)|18=>m2 .lens (dD t40) (od t40)|19=>m5 .app (dD t36) (ix cT .i t46) (bo t50) (od t26) (od t40)|20=>m5 .sub (dD t40) (ix cT .i t46) (od t23) (oo t49) (oo t49)|21=>m1 .Uz (nl t39 t33 t42)|22=>m2 .Rt (dD t40) (od t40)|23=>m4 .VF (dD t40) (od t41) (oo t49) (oo t49)|_=>ix X (.bad none) t24
def oP(l:List Nat):Rd c (Nat×YOp R):=fun x d K=>nu l x d fun h x d=>oq G X h x d fun o=>K (h,o)
def oL:Nat->List Nat->Rd c (List (Option (Nat×Bool)×YOp R))|0,_=>fun x d K=>K [] x d|n+1,l=>fun x d K=>gu t35 t41 x d fun g x d=>oP G X l x d fun o x d=>oL n (gt pT o.1 t2) x d fun r=>K ((g,o.2)::r)
def rn:Nat->Nat->Rd c (Bd R)
 |0,_=>fun x d K=>K .nil x d|f+1,j=>fun x d K=>nu t12 x d fun h x d=>(match h with
  |0=>fun x d K=>K .nil x d|1=>fun x d K=>nu t13 x d fun i x d=>DB (j+i-32) fun i=>m4 (fun g s o r=>.op i g s o.2 r) (gu t35 t41) (ke t14 t44) (oP G X t15) (rn f (i+1)) x d K|2=>m2 .dr (ke t47 t30) (rn f j)|3=>m2 .nl (nl t34 t33 t25) (rn f j)|_=>m3 .both (nu t45) (rn f j) (rn f j):Rd c (Bd R)) x d K
def cd:Nat->List Nat->Rd c (F7 R)
 |0,_=>fun x d K=>K .dead x d|f+1,l=>fun x d K=>nu l x d fun h x d=>(match h with
  |0=>fun x d K=>K .skip x d|1=>m2 .region (fun x d K=>nu t32 x d fun n x d=>oL G X n t1 x d K) (kk t34 [[t50,t50],[t38,t50],[t45,t39]])|2=>m2 .Pj (rn G X 900 0) (kk t34 [[t50,t50],[t38,t50],[t45,t39]])|3=>m2 .seq (cd f t0) (cd f t29)|4=>m3 .join cu (cd f t43) (cd f t29)|5=>fun x z K=>sl t33 x z fun n x z=>(kk t45 [[t45,t45],[t39,t50],[t0,t0]]) x z fun t x y=>(kk t45 [[t45,t45],[t39,t50],[t0,t0]]) x z fun e x z=>cd f t43 x y fun a x y=>DB (z / 1024*1024+y % 1024) fun z=>cd f t11 x z fun b x z=>
   DB ((y / 1024 |||z / 1024)*1024+z % 1024) fun z=>K (.cond n t e a b) x z
  |6=>m2 .block (nu t24) (cd f t10)|7=>m2 .loop cu (cd f t31)|8=>m1 .exit (nu t24)|9=>fun x d K=>K .ret x d|10=>m1 .scope (cd f t10)|11=>m2 .or (cd f t10) (cd f t10)|12=>fun x d K=>K .dead x d|_=>m2 .ARY cu (cd f t31):Rd c (F7 R)) x d K
end
end
end
end Y
noncomputable section
open Y
def dY{R:List GF}(n:Nat)(G:List GF)(X:List (YOp R):=[]):F7 R:=cd G X 300 t31 n 0 fun a _ _=>a
def gZ(ps:List PK)(rk:RK)(rs:List G7)(n:Nat)(G:List GF)(d:A ps->Option (Tu (rk.cs++MG ps)))(X:List (YOp []):=[])
 (hd:∀a,(YF.mk [] ps [] rk rs (dY n G X)).run a=d a:=by intro a;kernel_rfl) (hp:zM ps=true:=by rfl)
 (hf:([]:List Nat).map (fun n=>(([]:List GF)[n]?).map GF.x)=(fX ps).map some:=by rfl):GF:=YF.gf ⟨[],ps,[],rk,rs,dY n G X⟩ hp hf d hd
def C4:RK:=.ret [.b]
def Wk:List G7:=[.tmp 6]
def ga:List PK:=[.v (.st 1)]
def DJ:List G7:=[.tmp 2]
def ZU:List PK:=[.v (.st 1),.v (.st 2),.v .i]
def ZV:List PK:=[.v (.st 8)]
def yh:List PK:=[.v (.l .i),.v .i]
def Ch:List G7:=[.tmp 4]
def ANO:List PK:=[.v (.st 4),.v (.st 4)]
def ANP:List PK:=[.v (.l (.st 4)),.v .i]
def DC:RK:=.ret [.i]
def qR:List PK:=[.v (.l (.st 4))]
def YL:List PK:=[.v (.st 6)]
def Ur:RK:=.ret [(.l (.st 5))]
def qS:List PK:=[.v (.st 7)]
def qT:List PK:=[.v .i,.v .i]
def YP:RK:=.ret [(.l (.st 4))]
def ABw:List PK:=[.v (.l (.st 4)),.v (.st 4)]
def ANI:List PK:=[.v (.l (.st 4)),.v (.l (.st 4))]
def ANJ:List PK:=[.v (.l (.st 5)),.v (.st 5)]
def O3:List PK:=[.v (.l (.st 2)),.v .i]
def ANK:List PK:=[.v (.l (.st 5)),.v (.l (.st 5))]
def ANL:List PK:=[.v (.st 1),.v (.st 7),.v (.l (.st 2)),.v .i,.v .i]
def qU:List PK:=[.v (.st 9)]
def SR:List PK:=[.v .i]
def Up:List PK:=[.v (.st 11)]
def SS:RK:=.ret [(.l .i)]
def gb:List PK:=[.v (.l .i)]
def Nx:RK:=.ret [.s]
def Uq:List PK:=[.v (.l .u)]
def FH:List PK:=[.v (.st 8),.v .i]
def ABz:RK:=.ret [(.st 1)]
def AB3:List G7:=[.cell 2 (some 9)]
def SU:RK:=.ret [(.st 3),.b]
def qv:List G7:=[.cell 2 (some 15),.tmp 3]
def AB0:RK:=.ret [(.st 11),.b]
def AB4:List G7:=[.cell 2 (some 23),.tmp 3]
def AB1:RK:=.ret [(.st 9)]
def AB5:List G7:=[.cell 2 (some 2)]
def qZ:RK:=.ret [(.st 6)]
def qy:List G7:=[.cell 2 (some 1)]
def gi:RK:=.ret [(.st 7)]
def rA:List G7:=[.cell 2 (some 7)]
def qg:RK:=.ret [(.st 11)]
def rB:List G7:=[.cell 2 (some 23)]
def AB2:RK:=.ret [(.st 9),.b]
def AB6:List G7:=[.cell 4 (some 2),.tmp 5]
def qV:List PK:=[.v (.st 11),.v (.st 0)]
def rC:List G7:=[.cell 4 (some 23),.tmp 5]
def Ny:RK:=.ret [(.st 8)]
def AB7:List G7:=[.cell 2 (some 15)]
def ABx:List PK:=[.v (.st 10),.v .i]
def H6:List PK:=[.b (.st 17)]
def qW:List PK:=[.v (.st 6),.v (.st 5)]
def gj:RK:=.ret [(.st 6),.b]
def rD:List G7:=[.cell 4 (some 1),.tmp 5]
def AB8:List G7:=[.cell 4 (some 15),.tmp 5,.tmp 6]
def qh:RK:=.ret [(.l (.st 4)),.b]
def rF:List G7:=[.tmp 4,.tmp 5]
def gh:List PK:=[.v (.st 8),.v (.st 0)]
def qX:List PK:=[.v (.st 2),.v .i]
def qY:List PK:=[.o (.st 8),.v (.st 2)]
def Ut:List G7:=[.cell 4 (some 15)]
def YM:List PK:=[.v (.st 3),.v .i]
def YR:List G7:=[.cell 4 (some 5),.tmp 5]
def ANM:List PK:=[.v (.st 8),.v .i,.v .i,.v .i,.v .i,.v .i]
def Kf:RK:=.ret [(.st 8),.i]
def ANX:List G7:=[.cell 12 (some 15),.tmp 13]
def MW:List G7:=[.cell 4 (some 15),.tmp 5]
def ANY:List G7:=[.cell 6 (some 15),.tmp 7]
def ANZ:List G7:=[.cell 6 (some 10),.tmp 7]
def ABy:List PK:=[.o (.st 8),.v .i]
def ANQ:RK:=.ret [(.st 8),(.l .i)]
def ANR:RK:=.ret [(.st 8),.i,(.l .i)]
def ANS:RK:=.ret [(.st 8),(.st 12)]
def ANa:List G7:=[.cell 4 (some 15),.cell 5 (some 2)]
def ANN:List PK:=[.v (.st 8),.v (.l (.st 0))]
def ANT:RK:=.ret [(.st 8),(.l (.st 12))]
def ANU:RK:=.ret [(.st 11),(.l (.st 12))]
def YN:List PK:=[.b (.st 3),.p .i]
def YQ:RK:=.ret []
def ANV:RK:=.ret [(.st 11),(.st 12)]
def ANb:List G7:=[.cell 4 (some 23),.cell 5 (some 2)]
def ANW:RK:=.ret [(.st 11),(.st 0)]
def ANc:List G7:=[.cell 2 (some 23),.cell 3 (some 6)]
end
end Lv
