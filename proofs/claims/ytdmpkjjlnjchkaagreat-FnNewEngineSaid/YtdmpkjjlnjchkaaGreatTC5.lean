/- The typed machine is right about the light one. -/
import Derived.Test.YtdmpkjjlnjchkaaGreatTB
set_option linter.unusedVariables false
set_option linter.unusedSimpArgs false
set_option linter.unusedSectionVars false
namespace Lv
namespace Y
open Go (IntKind BinOp UnOp)
noncomputable section
def Rd(c a:Type):Type:=Nat->Nat->(a->Nat->Nat->c)->c
section
variable{c α β γ δ ε ζ:Type}
def gt:List α->Nat->α->α| [],_,a=>a|b::_,0,_=>b|_::l,n+1,a=>gt l n a
def rdE:List Nat->Nat->Nat->(Nat->Nat->c)->c
 | [],_,_,K=>K 0 0|e::l,r,q,K=>match Nat.blt r (e % 1024+1) with|true=>Df ((e % 1024+1)*q+r) fun x=>Df (e / 1024) fun s=>K s x|false=>rdE l (r-(e % 1024+1)) q K
def nu(l:List Nat):Rd c Nat:=fun x d K=>rdE l (x % 1024) (x / 1024) fun s x=>match Nat.beq s 999 with|true=>Df (x % 1024) fun s=>Df (x / 1024) fun x=>K s x d|false=>K s x d
def stp(z v:Nat):Nat:=(z / 1024 |||1 <<< (v+512))*1024+v
def dD(l:List Nat):Rd c Nat:=fun x z K=>nu l x z fun s x z=>Df (z % 1024+s-160) fun v=>Df (stp z v) fun z=>K v x z
def dA(l:List Nat):Rd c Nat:=fun x z K=>nu l x z fun v x z=>Df (stp z v) fun z=>K v x z
def sl(l:List Nat):Rd c Nat:=fun x z K=>nu l x z fun s x z=>Df (z % 1024+160-s) fun v=>K v x z
def m1(f:α->β)(a:Rd c α):Rd c β:=fun x d K=>a x d fun u x d=>K (f u) x d
def m2(f:α->β->γ)(a:Rd c α)(b:Rd c β):Rd c γ:=fun x d K=>a x d fun u x d=>b x d fun v x d=>K (f u v) x d
def m3(f:α->β->γ->δ)(a:Rd c α)(b:Rd c β)(e:Rd c γ):Rd c δ:=fun x d K=>a x d fun u x d=>b x d fun v x d=>e x d fun w x d=>K (f u v w) x d
def m4(f:α->β->γ->δ->ε)(a:Rd c α)(b:Rd c β)(e:Rd c γ)(g:Rd c δ):Rd c ε:=fun x d K=>a x d fun u x d=>m3 (f u) b e g x d K
def m5(f:α->β->γ->δ->ε->ζ)(a:Rd c α)(b:Rd c β)(e:Rd c γ)(g:Rd c δ)(h:Rd c ε):Rd c ζ:=fun x d K=>a x d fun u x d=>m4 (f u) b e g h x d K
def rep(m:Rd c α):Nat->Rd c (List α)|0=>fun x d K=>K [] x d|n+1=>m2 .cons m (rep m n)
def li(l:List Nat)(m:Rd c α):Rd c (List α):=fun x d K=>nu l x d fun n x d=>rep m n x d K
def kd(e:List Nat):Nat->Nat->Rd c (List Nat)|0,_=>fun x d K=>K [] x d|n+1,p=>fun x d K=>nu e x d fun s x d=>Df (p+s) fun v=>kd e n v x d fun r=>K (v::r)
def ke(l e:List Nat):Rd c (List Nat):=fun x d K=>nu l x d fun n x d=>kd e n 0 x d K
def kp(t:List (List (List Nat)))(d:Nat):Nat->Nat->Nat->Nat->Nat->Nat->(List Nat->Nat->c)->c
 |0,_,_,_,_,x,K=>K [] x|f+1,i,o,w,p,x,K=>match Nat.beq (o |||w) 0 with
  |true=>K [] x|false=>Df (o / 2) fun o'=>Df (w / 2) fun w'=>Df (i+1) fun j=>match Nat.beq ((o |||w) % 2) 0 with
   |true=>kp t d f j o' w' p x K|false=>rdE (gt (gt t (match Nat.beq i d with|true=>0|false=>1+w % 2) []) p []) (x % 1024) (x / 1024) fun s x=>match s with|0=>kp t d f j o' w' 0 x K|_=>kp t d f j o' w' 1 x fun r=>K (i::r)
def bits:List Nat->Nat->Nat| [],a=>a|i::r,a=>Df (a |||1 <<< i) fun a=>bits r a
def cN(l:List Nat):Rd c Nat:=fun x z K=>nu l x z fun v x z=>Df ((z / 1024 |||1 <<< (v+512))*1024+z % 1024) fun z=>K v x z
def ix(t:List α)(a:α)(l:List Nat):Rd c α:=m1 (fun n=>gt t n a) (nu l)
def t0:List Nat:=[1804,3161,6187,2091,4127,5151,1022976]
def t1:List Nat:=[390,1193,7294,13420,10332,4173,14356,5136,3080,1022984]
def t2:List Nat:=[1023197,525509,409723,524339,526380,162849,150558,157717,144403,159763,158739,155665,160784,151567,148494,147470,153612,161804,529419,146443,143370,156682,154633,136200,149512,142343,135175,152583,140295,141319,543751,139270]
def t3:List Nat:=[1295,170,3160,7255,15442,19505,4136,13351,8231,10271,16411,21531,1022999,24596,2064]
def t4:List Nat:=[1681,2261,115,3107]
def t5:List Nat:=[2514,1258,1023065,12362,5181,6188,10276,13324]
def t6:List Nat:=[165326,410873,1023063,409669,165955,411670,418828,534538,414729,415753,412680,529416]
def t7:List Nat:=[164063,165087,166098,167060,168042,169010,170013,171019,175111,1022983]
def t8:List Nat:=[165450,526772]
def t9:List Nat:=[525898,165300]
def t10:List Nat:=[8082,8270,13341]
def t11:List Nat:=[643,16465,3126,6192,11301,10275,2080,5150,7198,8209,1022982]
def t12:List Nat:=[11626,176,2208,1176,3119,1023023,13351,10273]
def t13:List Nat:=[3611,310,1146,1022995,2062,4110]
def t14:List Nat:=[569,8480,3191,1053,4110]
def t15:List Nat:=[7650,3505,2084,4128,1056,1022979]
def t16:List Nat:=[1315,15600,5258,2126,10313,4149,9252,7204,3099,6169,23568]
def t17:List Nat:=[164427,1023287,183340,182302,175131,171027]
def t18:List Nat:=[33713,33817,1023000,34827,35847,29702]
def t19:List Nat:=[8852,1322,3124,1022986]
def t20:List Nat:=[234,1131,2130,7248,3138,4155,6199,5174,9270,11318,12328,8226,13341,14358,10259,15367,22534,1022980]
def t21:List Nat:=[235,7368,13438,14424,16459,10308,8243,9243,15387,2071,1044,3086,5133,11273,17415,1022983,24582,6149,19460]
def t22:List Nat:=[133,1023094,3158,5204,1097,2118,4158,6198,7209,9254,10277,8226,409619,11279,13326,20494,18444,16396,17419,14346,12298,24584,19464,23559,21509,22532,15364,28676,31748,132099]
def t23:List Nat:=[1239,2250,3261,4200,6206,5177,1023031,8230,7200,9232,14344,10248,11271,12295,15364,13316]
def t24:List Nat:=[168105,170121,169095,167016,165960,171072,164927,172091,163894,173103,1023001,177176,174099,176142,175117,524297]
def t25:List Nat:=[3462,9418,5301,4197,1099,6209,1022979]
def t26:List Nat:=[871,2135,1087]
def t27:List Nat:=[4067,1023003]
def t28:List Nat:=[1861,185]
def t29:List Nat:=[22042,1329,8370]
def t30:List Nat:=[165321,166099,167029,1023024,167982,410648,409623,168979,169993,171014,177157,175108,413700,527364,173060,174084,411652,415748,471044,178179,176131]
def t31:List Nat:=[165644,1023050,165915,166931,167950,169996,168969,171016,175111,173062,174086,177158,178181,176132,172036,179204,181251,182275,185346,161794,184322,180226,183298]
def t32:List Nat:=[1409,3374,2315,6195,4105,1022980]
def t33:List Nat:=[164852,1022986]
def t34:List Nat:=[165879,165894,1022976]
def t35:List Nat:=[379,1365,2159,3127,4137,5142,6165,8205,7180,1022982,10246,9221]
def t36:List Nat:=[656,1390]
def t37:List Nat:=[1948,76,2057,4101,3077]
def t38:List Nat:=[224,10428,13481,16523,17464,1070,24609,8217,7191,14357,15376,3087,6159,5128,11271,1022983,19461,18437,20483]
def t39:List Nat:=[1012,1034]
def t40:List Nat:=[1343,284,2305,10280,12328,16412,13336,1023000]
def t41:List Nat:=[2251,4271,3224,5261,7242,6209,33,8224,1023003,13326,9229,10253,1034,17418,14345,11272,20486,12294,16389,15364,21507]
def t42:List Nat:=[1980,1023008,15369,6152,9223,13318]
def t43:List Nat:=[164118,165110,1023206,165968,166961,716849,157715,168977,153617,158734,151566]
def t44:List Nat:=[943,1089,2054,1022979,3074]
def uT:List (U):=[.nil,.bool false,.bool true,.int .i64 1000000,.int .i64 999,.int .i64 (-1),.int .i64 1000008,.int .i64 1000001,.int .i64 20000,.int .i64 9999,.int .u64 1,.int .u64 4294967296,.int .u64 32,.int .u64 65536,.int .u64 16,.int .u64 256,.int .u64 8,.int .i64 2147483647,.int .i64 128,.str [],.int .i64 4294967295,.int .i64 3988292384,.int .u64 24,.int .i64 1048576,.np,.int .i64 28285,.int .i64 4000,.int .i64 131,.int .i64 1073741823,.int .i64 6364136223846793005,.int .i64 1442695040888963407,.int .u64 33,.int .u64 45,.int .i64 255,.int .i64 256,.int .i64 16777216,.int .i64 65536,.sl .i [],.int .i64 9223372036854775807,.int .i64 (-9223372036854775808)]
def hT:List (Sh):=[.one]
def cT:List (C):=[.st 4,.b,.i,.st 2,.st 5,.l (.st 5),.l (.st 4),.st 7,.st 0,.st 6,.st 8,.m,.l .i,.l (.st 2),.st 12,.l (.st 12),.l .u,.u,.l (.st 7),.l (.st 15),.st 15,.l (.st 0),.st 1]
def nT:List (List (Nat×C)):=[[(0,.st 4)],[(0,.st 5)],[(0,.i)],[(0,.l (.st 5))],[(5,.st 4),(6,.l (.st 5))],[(0,.i),(11,.st 2),(12,.st 7),(13,.i),(14,.i)],[(12,.st 7)],[(0,.st 2)],[(1,.i)],[(0,.st 12)],[(0,.u)],[(11,.st 2),(12,.st 7),(13,.i),(14,.i)],[(6,.l (.st 5))],[(0,.st 15)],[(0,.st 0)],[(0,.i),(11,.st 2),(12,.st 7),(13,.i),(14,.i),(22,.st 0)],[(22,.st 0)],[(5,.st 4)]]
def zT:List (List U):=[[.int .i64 0,.int .i64 0,.int .i64 0,.int .i64 0,.int .i64 0,.int .i64 0,.int .i64 0,.int .i64 0,.int .i64 0,.int .i64 0],[.int .i64 0,.int .i64 0,.int .i64 0,.int .i64 0],[.int .i64 0,.int .i64 0],[.int .i64 0,.int .i64 0,.int .i64 0,.int .i64 0,.int .i64 0,.int .i64 0],[.nil,.int .i64 0,.int .i64 0,.int .i64 0,.int .i64 0,.int .i64 0,.int .i64 0,.int .i64 0,.int .i64 0],[.nil],[.int .i64 0,.int .i64 0,.int .i64 0,.int .i64 0,.int .i64 0,.nil,.nil],[.nil,.int .i64 0,.int .i64 0,.int .i64 0,.int .i64 0,.int .i64 0,.int .i64 0,.int .i64 0,.int .i64 0,.int .i64 0,.int .i64 0,.nil,.nil,.nil,.nil],[.str [],.int .i64 0],[.int .i64 0,.int .i64 0,.int .i64 0,.int .i64 0,.int .i64 0],[.int .i64 0,.nil],[.int .i64 0,.str [],.int .i64 0],[.nil,.int .i64 0,.int .i64 0,.int .i64 0,.int .i64 0,.int .i64 0,.int .i64 0,.int .i64 0,.int .i64 0,.int .i64 0,.int .i64 0,.nil,.nil,.nil,.nil,.str [],.int .i64 0,.str [],.int .i64 0,.str [],.int .i64 0,.int .i64 0,.nil],[.nil,.int .i64 0,.int .i64 0],[.str [],.int .i64 0,.str [],.int .i64 0,.str [],.int .i64 0]]
def bT:List (Cls×BinOp):=[(.num,.geq),(.num,.leq),(.num,.lss),(.num,.add),(.num,.sub),(.num,.eql),(.num,.gtr),(.num,.neq),(.num,.rem),(.num,.quo),(.agg [.i,.i,.i,.i],.neq),(.agg [.i,.i],.neq),(.agg [.i,.i,.i,.i,.i,.i],.eql),(.num,.shr),(.num,.mul),(.agg [.i,.i],.eql),(.num,.xor),(.num,.and),(.num,.shl),(.sl,.eql),(.agg [.i,.i,.i,.i,.i],.eql),(.agg [.i,.i,.i,.i,.i,.i,.i,.i,.i,.i],.neq),(.agg [.s,.i,.s,.i,.s,.i],.eql)]
def UT:List (UnOp):=[.not]
def kT:List (IntKind):=[.u64,.i64,.u8]
def aT:List (AL):=[.num .u64,.val (.l .i) (some (.old 0)),.al (.cell 7 0),.val (.st 17) (some (.old 0))]
def pT:List (List Nat):=[t38,t29,t3,t29,t3,t3,t3,t38,t42,t3,t40,t40,t3,t10,t3,t3,t12,t38,t3,t3,t3,t19,t3,t3]
def kk(g:List Nat)(t:List (List (List Nat))):Rd c (List Nat):=fun x z K=>nu g x z fun s x z=>match s with|0=>kp t (z % 1024) 512 0 (z / 1024 % 2 ^ 512) (z / 1024 / 2 ^ 512) 1 x fun r x=>Df (bits r 0*1024+z % 1024) fun z=>K r x z|_=>ke t23 t35 x z fun r x z=>Df (bits r 0*1024+z % 1024) fun z=>K r x z
def od(l:List Nat)(q:Nat->Nat->Nat:=fun z s=>z % 1024+160-s):Rd c YO:=fun x d K=>nu l x d fun s x d=>match Nat.blt s 400 with
 |true=>Df (q d s) fun v=>K (.tmp v) x d|false=>match Nat.blt s 512 with|true=>Df (s-400) fun v=>K (.k (.int .i64 (Int.ofNat v))) x d|false=>K (.k (gt uT (s-512) .nil)) x d
def oo(l:List Nat):Rd c (Option YO):=fun x d K=>nu l x d fun s x d=>match Nat.blt s 400 with
 |true=>Df (d % 1024+160-s) fun v=>K (some (.tmp v)) x d|false=>match Nat.blt s 512 with
  |true=>Df (s-400) fun v=>K (some (.k (.int .i64 (Int.ofNat v)))) x d|false=>match Nat.blt s 700 with|true=>K (some (.k (gt uT (s-512) .nil))) x d|false=>K none x d
def on(l:List Nat):Rd c (Option Nat):=m1 (fun n=>match n with|0=>none|n+1=>some n) (nu l)
def bo(l:List Nat):Rd c Bool:=m1 (fun n=>match n with|0=>false|_=>true) (nu l)
def gu(l e:List Nat):Rd c (Option (Nat×Bool)):=fun x d K=>nu l x d fun s x d=>match s with|0=>K none x d|1=>sl e x d fun v=>K (some (v,false))|_=>sl e x d fun v=>K (some (v,true))
def nl(a b e:List Nat):Rd c (List (CV×C)):=m3 (fun k s p=>p.map fun q=>(match k with|false=>.cell s q.1|true=>.tmp s q.1,q.2)) (bo a) (sl b) (ix nT [] e)
def aL(l:List Nat):Rd c AL:=fun x d K=>nu l x d fun s x d=>match Nat.blt s 500 with|true=>K (.val (gt cT s .i) none) x d|false=>K (gt aT (s-500) (.num .i64)) x d
def cu:Rd c Cut:=li t4 (m4 (fun b n h a=>(b,n,h,a)) (bo t44) (cN t22) (ix hT .one t39) (li t42 (aL t5)))
variable{R:List GF}
def cl(d:Nat)(g:Option GF)(l:List YO):YOp R:=match g with
 |none=>.bad none|some g=>match h:fX g.ps with| []=>.call d g [] (by rw[h];rfl) l|_::_=>.bad none
section
variable(G:List GF)(X:List (YOp R))
def oq:Nat->Rd c (YOp R)|0=>m2 .mv (dD t31) (od t22 fun _ s=>s)|1=>m2 .as (dA t41) (od t2)|2=>m4 .pick (dD t34) (od t24) (od t8) (od t9)|3=>m2 .alloc (dA t41) (ix zT [] t20)|4=>m2 .box (dD t30) (od t30)|5=>m3 .build (dD t31) (ix zT [] t20) (li t35 (m3 (fun a b e=>(a,b,e)) (nu t20) (nu t42) (od t31)))|6=>m4 .B7 (dD t31) (nu t35) (ix cT .i t41) (li t35 (m2 .mk (nu t35) (od t31)))|7=>m3 .ld (dD t31) (on t11) (od t31)|8=>m3 .st (nu t16) (od t17) (od t43)|9=>m2 .chk (dD t34) (od t31)|10=>m4 (fun d b x y=>.bin d b.1 b.2 x y) (dD t31) (ix bT (.num,.add) t41) (od t30) (od t6)|11=>m3 .un (dD t34) (ix UT .not t39) (od t34)|12=>m3 .cvI (dD t34) (ix kT .i64 t40) (od t34)|13=>m3 .fa (dD t31) (nu t20) (od t23 fun _ s=>s)|14=>m4 .ia (dD t34) (ix cT .i t41) (od t30) (od t30)|15=>m3 .ext (dD t31) (od t24) (nu t35)|16=>m3 cl (dD t31) (ix (G.map some) none t35) (li t32 (od t30))|17=>m2 .len (dD t34) (od t34)|18=>m2 .lens (dD t34) (od t34)|19=>m5 .app (dD t31) (ix cT .i t41) (bo t37) (od t24) (od t34)|20=>m5 .sub (dD t34) (ix cT .i t41) (od t30) (oo t43) (oo t43)|21=>m1 .Zk (nl t36 t33 t41)|22=>m2 .Ru (dD t34) (od t34)|23=>m4 .dk (dD t31) (od t30) (oo t43) (oo t43)|_=>ix X (.bad none) t35
def oP(l:List Nat):Rd c (Nat×YOp R):=fun x d K=>nu l x d fun h x d=>oq G X h x d fun o=>K (h,o)
def oL:Nat->List Nat->Rd c (List (Option (Nat×Bool)×YOp R))|0,_=>fun x d K=>K [] x d|n+1,l=>fun x d K=>gu t26 t7 x d fun g x d=>oP G X l x d fun o x d=>oL n (gt pT o.1 t3) x d fun r=>K ((g,o.2)::r)
def rn:Nat->Nat->Rd c (B2 R)
 |0,_=>fun x d K=>K .nil x d|f+1,j=>fun x d K=>nu t37 x d fun h x d=>(match h with
  |0=>fun x d K=>K .nil x d|1=>fun x d K=>nu t18 x d fun i x d=>Df (j+i-32) fun i=>m4 (fun g s o r=>.op i g s o.2 r) (gu t26 t24) (ke t44 t22) (oP G X t21) (rn f (i+1)) x d K|2=>m2 .dr (ke t21 t42) (rn f j)|3=>m2 .nl (nl t36 t33 t41) (rn f j)|_=>m3 .both (nu t39) (rn f j) (rn f j):Rd c (B2 R)) x d K
def cd:Nat->List Nat->Rd c (G7 R)
 |0,_=>fun x d K=>K .dead x d|f+1,l=>fun x d K=>nu l x d fun h x d=>(match h with
  |0=>fun x d K=>K .skip x d|1=>m2 .region (fun x d K=>nu t23 x d fun n x d=>oL G X n t1 x d K) (kk t44 [[t28,t37],[t36,t28],[t39,t36]])|2=>m2 .RD (rn G X 900 0) (kk t44 [[t28,t37],[t36,t28],[t39,t36]])|3=>m2 .seq (cd f t0) (cd f t25)|4=>m3 .join cu (cd f t32) (cd f t25)|5=>fun x z K=>sl t33 x z fun n x z=>(kk t39 [[t39,t39],[t36,t28],[t0,t0]]) x z fun t x y=>(kk t39 [[t39,t39],[t36,t28],[t0,t0]]) x z fun e x z=>cd f t13 x y fun a x y=>Df (z / 1024*1024+y % 1024) fun z=>cd f t14 x z fun b x z=>
   Df ((y / 1024 |||z / 1024)*1024+z % 1024) fun z=>K (.cond n t e a b) x z
  |6=>m2 .block (nu t35) (cd f t15)|7=>m2 .loop cu (cd f t27)|8=>m1 .exit (nu t35)|9=>fun x d K=>K .ret x d|10=>m1 .scope (cd f t15)|11=>m2 .or (cd f t15) (cd f t15)|12=>fun x d K=>K .dead x d|_=>m2 .AeO cu (cd f t27):Rd c (G7 R)) x d K
end
end
end
end Y
noncomputable section
open Y
def dY{R:List GF}(n:Nat)(G:List GF)(X:List (YOp R):=[]):G7 R:=cd G X 300 t27 n 0 fun a _ _=>a
def gZ(ps:List PK)(rk:RK)(rs:List G6)(n:Nat)(G:List GF)(d:A ps->Option (Tu (rk.cs++NA ps)))(X:List (YOp []):=[])
 (hd:∀a,(YF.mk [] ps [] rk rs (dY n G X)).run a=d a:=by intro a;kernel_rfl) (hp:AME ps=true:=by rfl)
 (hf:([]:List Nat).map (fun n=>(([]:List GF)[n]?).map GF.x)=(fX ps).map some:=by rfl):GF:=YF.gf ⟨[],ps,[],rk,rs,dY n G X⟩ hp hf d hd
def nU:List PK:=[.v .i,.v .i,.v .i]
def Cm:RK:=.ret [.b]
def Bz:List G6:=[.tmp 6]
def Wb:List PK:=[.v (.st 1)]
def BGd:List G6:=[.tmp 2]
def Ae8:List PK:=[.v (.st 1),.v (.st 2),.v .i]
def AZv:List PK:=[.v (.st 8)]
def IE:List PK:=[.v (.l .i),.v .i]
def BGb:List G6:=[.tmp 4]
def ACS:List PK:=[.v (.st 4),.v (.st 4)]
def BGg:RK:=.ret [.i]
def dK:List PK:=[.v (.l (.st 4))]
def Aic:List PK:=[.v (.st 6)]
def Am0:RK:=.ret [(.l (.st 5))]
def A5B:RK:=.ret [(.l (.st 4))]
def AvR:List PK:=[.v (.l (.st 4)),.v (.st 4)]
def Ak7:List PK:=[.v (.l (.st 4)),.v (.l (.st 4))]
def AvS:List PK:=[.v (.l (.st 5)),.v (.st 5)]
def AsD:List PK:=[.v (.l (.st 2)),.v .i]
def Amw:List PK:=[.v (.l (.st 5)),.v (.l (.st 5))]
def Awz:List PK:=[.v (.st 1),.v (.st 7),.v (.l (.st 2)),.v .i,.v .i]
def xY:List PK:=[.v (.st 9)]
def AvT:List PK:=[.v (.st 10)]
def A9G:List PK:=[.v .i]
def A87:RK:=.ret [(.l .i)]
def Aw0:List PK:=[.v (.l .u)]
def A1A:RK:=.ret [(.st 1)]
def BKa:List G6:=[.cell 2 (some 9)]
def xg:List G6:=[.cell 2 (some 15),.tmp 3]
def BKk:RK:=.ret [(.st 9)]
def BKp:List G6:=[.cell 2 (some 23),.tmp 3]
def A5C:RK:=.ret [(.st 8)]
def Am1:RK:=.ret [(.st 6),.b]
def Ob:RK:=.ret [(.st 8),.i,.b]
def AEj:List G6:=[.cell 2 (some 15),.tmp 3,.tmp 4]
def BE1:List G6:=[.cell 4 (some 15),.tmp 5,.tmp 6]
def Amx:List PK:=[.v (.st 8),.v .i]
def ah:RK:=.ret [(.l (.st 4)),.b]
def A6f:List PK:=[.b (.st 3),.p .i]
def BJu:RK:=.ret []
def AsG:RK:=.ret [(.st 8),.i]
def AvV:List G6:=[.cell 4 (some 15),.tmp 5]
end
end Lv
