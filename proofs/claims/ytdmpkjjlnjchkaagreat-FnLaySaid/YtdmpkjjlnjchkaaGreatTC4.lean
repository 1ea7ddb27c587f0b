/- The typed machine is right about the light one. -/
import Derived.Test.YtdmpkjjlnjchkaaGreatTB
set_option linter.unusedVariables false
set_option linter.unusedSimpArgs false
set_option linter.unusedSectionVars false
namespace Lv
namespace Y
open Go (IntKind BinOp UnOp)
noncomputable section
def Rd(c a:Type):Type:=Nat->Nat->(a->Nat->Nat->c)->c
section
variable{c α β γ δ ε ζ:Type}
def gt:List α->Nat->α->α| [],_,a=>a|b::_,0,_=>b|_::l,n+1,a=>gt l n a
def rdE:List Nat->Nat->Nat->(Nat->Nat->c)->c
 | [],_,_,K=>K 0 0|e::l,r,q,K=>match Nat.blt r (e % 1024+1) with|true=>Df ((e % 1024+1)*q+r) fun x=>Df (e / 1024) fun s=>K s x|false=>rdE l (r-(e % 1024+1)) q K
def nu(l:List Nat):Rd c Nat:=fun x d K=>rdE l (x % 1024) (x / 1024) fun s x=>match Nat.beq s 999 with|true=>Df (x % 1024) fun s=>Df (x / 1024) fun x=>K s x d|false=>K s x d
def stp(z v:Nat):Nat:=(z / 1024 |||1 <<< (v+512))*1024+v
def dD(l:List Nat):Rd c Nat:=fun x z K=>nu l x z fun s x z=>Df (z % 1024+s-160) fun v=>Df (stp z v) fun z=>K v x z
def dA(l:List Nat):Rd c Nat:=fun x z K=>nu l x z fun v x z=>Df (stp z v) fun z=>K v x z
def sl(l:List Nat):Rd c Nat:=fun x z K=>nu l x z fun s x z=>Df (z % 1024+160-s) fun v=>K v x z
def m1(f:α->β)(a:Rd c α):Rd c β:=fun x d K=>a x d fun u x d=>K (f u) x d
def m2(f:α->β->γ)(a:Rd c α)(b:Rd c β):Rd c γ:=fun x d K=>a x d fun u x d=>b x d fun v x d=>K (f u v) x d
def m3(f:α->β->γ->δ)(a:Rd c α)(b:Rd c β)(e:Rd c γ):Rd c δ:=fun x d K=>a x d fun u x d=>b x d fun v x d=>e x d fun w x d=>K (f u v w) x d
def m4(f:α->β->γ->δ->ε)(a:Rd c α)(b:Rd c β)(e:Rd c γ)(g:Rd c δ):Rd c ε:=fun x d K=>a x d fun u x d=>m3 (f u) b e g x d K
def m5(f:α->β->γ->δ->ε->ζ)(a:Rd c α)(b:Rd c β)(e:Rd c γ)(g:Rd c δ)(h:Rd c ε):Rd c ζ:=fun x d K=>a x d fun u x d=>m4 (f u) b e g h x d K
def rep(m:Rd c α):Nat->Rd c (List α)|0=>fun x d K=>K [] x d|n+1=>m2 .cons m (rep m n)
def li(l:List Nat)(m:Rd c α):Rd c (List α):=fun x d K=>nu l x d fun n x d=>rep m n x d K
def kd(e:List Nat):Nat->Nat->Rd c (List Nat)|0,_=>fun x d K=>K [] x d|n+1,p=>fun x d K=>nu e x d fun s x d=>Df (p+s) fun v=>kd e n v x d fun r=>K (v::r)
def ke(l e:List Nat):Rd c (List Nat):=fun x d K=>nu l x d fun n x d=>kd e n 0 x d K
def kp(t:List (List (List Nat)))(d:Nat):Nat->Nat->Nat->Nat->Nat->Nat->(List Nat->Nat->c)->c
 |0,_,_,_,_,x,K=>K [] x|f+1,i,o,w,p,x,K=>match Nat.beq (o |||w) 0 with
  |true=>K [] x|false=>Df (o / 2) fun o'=>Df (w / 2) fun w'=>Df (i+1) fun j=>match Nat.beq ((o |||w) % 2) 0 with
   |true=>kp t d f j o' w' p x K|false=>rdE (gt (gt t (match Nat.beq i d with|true=>0|false=>1+w % 2) []) p []) (x % 1024) (x / 1024) fun s x=>match s with|0=>kp t d f j o' w' 0 x K|_=>kp t d f j o' w' 1 x fun r=>K (i::r)
def bits:List Nat->Nat->Nat| [],a=>a|i::r,a=>Df (a |||1 <<< i) fun a=>bits r a
def cN(l:List Nat):Rd c Nat:=fun x z K=>nu l x z fun v x z=>Df ((z / 1024 |||1 <<< (v+512))*1024+z % 1024) fun z=>K v x z
def ix(t:List α)(a:α)(l:List Nat):Rd c α:=m1 (fun n=>gt t n a) (nu l)
def t0:List Nat:=[1814,3180,6186,2083,4122,5136,1022976]
def t1:List Nat:=[416,1183,7296,13413,10322,4162,5138,3088,6157,14347,1022979]
def t2:List Nat:=[1274,124,3174,15446,13385,7239,19516,8243,16435,21537,4129,10270,1022994,2063,6156]
def t3:List Nat:=[22217,8408,1116]
def t4:List Nat:=[935,1111]
def t5:List Nat:=[8003,8334,13356]
def t6:List Nat:=[628,16474,3127,11302,7204,10276,2083,24608,5146,6164,8208,1022976]
def t7:List Nat:=[1336,15572,2151,23649,10300,5180,7215,4140,6180,9248,1022986]
def t8:List Nat:=[164394,1023272,178201,183321,182290,170000,191502,179214,174094,188428,200716,185356]
def t9:List Nat:=[164179,165160,1023190,165959,159771,145426,166930,160786,157710]
def t10:List Nat:=[1023176,525467,409749,162881,524325,526373,150550,159763,160786,157714,158737,544785,155663,153615,148495,149519,147470,151566,161805,144396,154636,146444,156683,145417,152585,136201,138249,529416,139271,142342,135174,137222,122886,143366,140294]
def t11:List Nat:=[8871,1290,3141,1022982]
def t12:List Nat:=[442,6311,11344,1023047,517179,3119,10277,8226,2067,18447,19471,23565,17420]
def t13:List Nat:=[3544,1339,6293,2119,1022988]
def t14:List Nat:=[7637,3475,1085,2096,4124,1022985]
def t15:List Nat:=[165309,410884,409684,1023044,165925,411681,418830,412685,414732,413706,543754,417801,534536,415751]
def t16:List Nat:=[3575,290,1212,2066,4112,1022979]
def t17:List Nat:=[562,8463,3221,1050,1022987]
def t18:List Nat:=[1931,68,2067,3085,4108]
def t19:List Nat:=[33690,33825,1023006,34830,29704,35846,36868]
def t20:List Nat:=[934,1063,2068,3084,1022984,8197]
def t21:List Nat:=[232,7374,13437,14429,16463,10303,8248,15383,3094,2069,1041,5135,19468,6153,11272,17413,20485,24581,9220,1022980]
def t22:List Nat:=[1486,195,2177,10299,13361,12335,16423,1023012]
def t23:List Nat:=[165401,526821]
def t24:List Nat:=[525849,165349]
def t25:List Nat:=[168132,169118,170112,167024,172135,171102,173107,165925,1023013,177180,174102,175121,164879,524300]
def t26:List Nat:=[165390,165984,1023048,166979,409648,410661,168982,167957,170003,413708,529419,415754,527369,175112,414727,173062,177158,412678,171013,411653,417797,421892]
def t27:List Nat:=[376,1323,2174,3136,4145,5147,6167,7180,8204,9226,10247,1022983]
def t28:List Nat:=[2255,3276,1226,4203,5184,6196,1023021,7209,8222,9236,10251,11272,14343,12292,16387,13315]
def t29:List Nat:=[165066,164038,166075,167048,168038,169029,170033,171031,172044,1022985,173064,175112,174088]
def t30:List Nat:=[2614,338,1141]
def t31:List Nat:=[1834,21683,8224]
def t32:List Nat:=[3458,5319,9413,4192,1094,6211,1022978]
def t33:List Nat:=[165269,166162,167022,168002,1023033,168986,170001,171022,174089,410633,178183,172038,176133,173061]
def t34:List Nat:=[4077,1022993]
def t35:List Nat:=[164858,1022980]
def t36:List Nat:=[717280,165266,1023115]
def t37:List Nat:=[1469,2437,3202,40,1022984,4102]
def t38:List Nat:=[165624,1023051,165919,166934,167952,168971,171017,169992,173062,176134,174085,172037,175109,178180,177156,179204,181251,180227,183299,161794,189442,184322,160770,186370,182274,188418,157697,192513]
def t39:List Nat:=[165887]
def t40:List Nat:=[165796,165935,1023013,166916]
def t41:List Nat:=[904,2111,1078]
def t42:List Nat:=[218,10438,16541,13465,17462,1060,8223,14359,7190,6166,24597,15380,3081,5129,11272,18440,1022983,19462,12291]
def t43:List Nat:=[1015,1031]
def t44:List Nat:=[1988,1023004,15374,9224,6149]
def t45:List Nat:=[1881,165]
def t46:List Nat:=[670,1373,2050]
def t47:List Nat:=[209,1149,11370,2131,8260,3137,4142,6186,5161,9253,13346,10269,7197,12315,15378,14354,22540,21513,16388,1022978]
def t48:List Nat:=[4216,3182,108,5218,2142,6227,1023046,7217,1067,8231,10267,9242,11279,13326,12299,17418,18441,20489,16392,14343,15366,409606,21510,19461,24579,22531,23555,30722,28674,26626,35842,25602]
def t49:List Nat:=[271,1248,5247,4214,7242,9249,6176,3100,16408,2069,15376,1022991,13322,8201,12295]
def uT:List (U):=[.nil,.bool false,.bool true,.int .i64 1000000,.int .i64 999,.int .i64 (-1),.int .i64 1000008,.int .i64 1000001,.int .i64 20000,.int .i64 9999,.int .u64 1,.int .u64 4294967296,.int .u64 32,.int .u64 65536,.int .u64 16,.int .u64 256,.int .u64 8,.int .i64 2147483647,.int .i64 127,.int .i64 128,.str [],.int .i64 4294967295,.int .i64 3988292384,.int .u64 24,.int .i64 (-5),.int .i64 1048576,.np,.int .i64 28285,.int .i64 4000,.int .i64 131,.int .i64 1073741823,.int .i64 6364136223846793005,.int .i64 1442695040888963407,.int .u64 33,.int .u64 45,.int .i64 255,.int .i64 256,.int .i64 16777216,.int .i64 65536,.int .i64 1000,.int .i64 10000,.int .i64 9223372036854775807,.int .i64 (-9223372036854775808),.int .i64 (-9),.int .i64 1000009,.int .i64 1000002,.str [48,49,50,51,52,53,54,55,56,57],.int .i64 19989,.int .i64 19990,.int .i64 999999,.int .i64 30000,.str [97],.str [115,111,109,101,32,98,121,116,101,115],.str [0,1,2,3]]
def hT:List (Sh):=[.one]
def cT:List (C):=[.i,.st 4,.st 6,.l (.st 5),.st 5,.st 0,.b,.st 2,.l (.st 4),.st 7,.st 8,.l .i,.st 12,.l (.st 12),.st 9,.m,.u,.l .u,.l (.st 2),.l (.st 7),.st 15,.l (.st 15),.st 10,.st 11,.st 1,.st 3,.s]
def nT:List (List (Nat×C)):=[[(0,.i)],[(0,.st 4)],[(0,.l (.st 5))],[(5,.st 4),(6,.l (.st 5))],[(0,.i),(11,.st 2),(12,.st 7),(13,.i),(14,.i),(22,.st 0)],[(0,.st 5)],[(0,.i),(11,.st 2),(12,.st 7),(13,.i),(14,.i)],[(0,.st 2)],[(1,.i)],[(0,.st 12)],[(12,.st 7)],[(0,.u)],[(11,.st 2),(12,.st 7),(13,.i),(14,.i)],[(0,.st 15)],[(6,.l (.st 5))],[(5,.st 4)],[(22,.st 0)]]
def zT:List (List U):=[[.nil,.int .i64 0,.int .i64 0,.int .i64 0,.int .i64 0,.int .i64 0,.int .i64 0,.int .i64 0,.int .i64 0],[.nil],[.int .i64 0,.int .i64 0,.int .i64 0,.int .i64 0,.int .i64 0,.nil,.nil],[.nil,.int .i64 0,.int .i64 0,.int .i64 0,.int .i64 0,.int .i64 0,.int .i64 0,.int .i64 0,.int .i64 0,.int .i64 0,.int .i64 0,.nil,.nil,.nil,.nil,.str [],.int .i64 0,.str [],.int .i64 0,.str [],.int .i64 0,.int .i64 0,.nil],[.int .i64 0,.int .i64 0,.int .i64 0,.int .i64 0,.int .i64 0,.int .i64 0,.int .i64 0,.int .i64 0,.int .i64 0,.int .i64 0],[.int .i64 0,.int .i64 0,.int .i64 0,.int .i64 0],[.int .i64 0,.int .i64 0],[.int .i64 0,.int .i64 0,.int .i64 0,.int .i64 0,.int .i64 0,.int .i64 0],[.nil,.int .i64 0,.int .i64 0,.int .i64 0,.int .i64 0,.int .i64 0,.int .i64 0,.int .i64 0,.int .i64 0,.int .i64 0,.int .i64 0,.nil,.nil,.nil,.nil],[.int .i64 0,.int .i64 0,.int .i64 0,.int .i64 0,.int .i64 0],[.int .i64 0,.nil],[.str [],.int .i64 0],[.nil,.int .i64 0,.bool false],[.int .i64 0,.str [],.int .i64 0],[.str [],.int .i64 0,.str [],.int .i64 0,.str [],.int .i64 0],[.nil,.int .i64 0,.int .i64 0]]
def bT:List (Cls×BinOp):=[(.num,.lss),(.num,.add),(.num,.geq),(.num,.leq),(.num,.sub),(.num,.eql),(.num,.gtr),(.num,.neq),(.num,.rem),(.num,.quo),(.agg [.i,.i,.i,.i],.neq),(.agg [.i,.i],.neq),(.agg [.i,.i,.i,.i,.i,.i],.eql),(.num,.mul),(.agg [.i,.i],.eql),(.num,.shr),(.num,.xor),(.num,.and),(.num,.shl),(.num,.or),(.sl,.eql),(.agg [.i,.i,.i,.i,.i],.eql),(.agg [.i,.i,.i,.i,.i,.i,.i,.i,.i,.i],.neq),(.agg [.s,.i,.s,.i,.s,.i],.eql)]
def UT:List (UnOp):=[.not]
def kT:List (IntKind):=[.u64,.i64,.u8]
def aT:List (AL):=[.num .u64,.val (.st 16) (some (.old 0)),.al (.cell 5 0),.val (.l .i) (some (.old 0)),.al (.cell 7 0),.val (.st 17) (some (.old 0))]
def pT:List (List Nat):=[t42,t31,t2,t3,t2,t2,t2,t42,t31,t2,t22,t30,t2,t5,t2,t2,t47,t42,t2,t2,t2,t11,t2,t2]
def kk(g:List Nat)(t:List (List (List Nat))):Rd c (List Nat):=fun x z K=>nu g x z fun s x z=>match s with|0=>kp t (z % 1024) 512 0 (z / 1024 % 2 ^ 512) (z / 1024 / 2 ^ 512) 1 x fun r x=>Df (bits r 0*1024+z % 1024) fun z=>K r x z|_=>ke t28 t27 x z fun r x z=>Df (bits r 0*1024+z % 1024) fun z=>K r x z
def od(l:List Nat)(q:Nat->Nat->Nat:=fun z s=>z % 1024+160-s):Rd c YO:=fun x d K=>nu l x d fun s x d=>match Nat.blt s 400 with
 |true=>Df (q d s) fun v=>K (.tmp v) x d|false=>match Nat.blt s 512 with|true=>Df (s-400) fun v=>K (.k (.int .i64 (Int.ofNat v))) x d|false=>K (.k (gt uT (s-512) .nil)) x d
def oo(l:List Nat):Rd c (Option YO):=fun x d K=>nu l x d fun s x d=>match Nat.blt s 400 with
 |true=>Df (d % 1024+160-s) fun v=>K (some (.tmp v)) x d|false=>match Nat.blt s 512 with
  |true=>Df (s-400) fun v=>K (some (.k (.int .i64 (Int.ofNat v)))) x d|false=>match Nat.blt s 700 with|true=>K (some (.k (gt uT (s-512) .nil))) x d|false=>K none x d
def on(l:List Nat):Rd c (Option Nat):=m1 (fun n=>match n with|0=>none|n+1=>some n) (nu l)
def bo(l:List Nat):Rd c Bool:=m1 (fun n=>match n with|0=>false|_=>true) (nu l)
def gu(l e:List Nat):Rd c (Option (Nat×Bool)):=fun x d K=>nu l x d fun s x d=>match s with|0=>K none x d|1=>sl e x d fun v=>K (some (v,false))|_=>sl e x d fun v=>K (some (v,true))
def nl(a b e:List Nat):Rd c (List (CV×C)):=m3 (fun k s p=>p.map fun q=>(match k with|false=>.cell s q.1|true=>.tmp s q.1,q.2)) (bo a) (sl b) (ix nT [] e)
def aL(l:List Nat):Rd c AL:=fun x d K=>nu l x d fun s x d=>match Nat.blt s 500 with|true=>K (.val (gt cT s .i) none) x d|false=>K (gt aT (s-500) (.num .i64)) x d
def cu:Rd c Cut:=li t37 (m4 (fun b n h a=>(b,n,h,a)) (bo t46) (cN t48) (ix hT .one t43) (li t44 (aL t12)))
variable{R:List GF}
def cl(d:Nat)(g:Option GF)(l:List YO):YOp R:=match g with
 |none=>.bad none|some g=>match h:fX g.ps with| []=>.call d g [] (by rw[h];rfl) l|_::_=>.bad none
section
variable(G:List GF)(X:List (YOp R))
def oq:Nat->Rd c (YOp R)|0=>m2 .mv (dD t38) (od t48 fun _ s=>s)|1=>m2 .as (dA t48) (od t10)|2=>m4 .pick (dD t40) (od t25) (od t23) (od t24)|3=>m2 .alloc (dA t48) (ix zT [] t47)|4=>m2 .box (dD t33) (od t33)|5=>m3 .build (dD t40) (ix zT [] t47) (li t27 (m3 (fun a b e=>(a,b,e)) (nu t47) (nu t44) (od t38)))|6=>m4 .B7 (dD t38) (nu t27) (ix cT .i t49) (li t27 (m2 .mk (nu t27) (od t26)))|7=>m3 .ld (dD t38) (on t6) (od t38)|8=>m3 .st (nu t7) (od t8) (od t9)|9=>m2 .chk (dD t39) (od t38)|10=>m4 (fun d b x y=>.bin d b.1 b.2 x y) (dD t40) (ix bT (.num,.add) t49) (od t33) (od t15)|11=>m3 .un (dD t39) (ix UT .not t43) (od t39)|12=>m3 .cvI (dD t40) (ix kT .i64 t30) (od t39)|13=>m3 .fa (dD t38) (nu t47) (od t28 fun _ s=>s)|14=>m4 .ia (dD t40) (ix cT .i t49) (od t33) (od t26)|15=>m3 .ext (dD t33) (od t25) (nu t46)|16=>m3 cl (dD t38) (ix (G.map some) none t27) (li t37 (od t26))|17=>m2 .len (dD t40) (od t39)|18=>m2 .lens (dD t39) (od t39)|19=>m5 .app (dD t38) (ix cT .i t49) (bo t45) (od t25) (od t39)|20=>m5 .sub (dD t39) (ix cT .i t49) (od t33) (oo t36) (oo t36)|21=>m1 .Zk (nl t46 t35 t48)|22=>m2 .Ru (dD t39) (od t39)|23=>m4 .dk (dD t39) (od t29) (oo t36) (oo t36)|_=>ix X (.bad none) t27
def oP(l:List Nat):Rd c (Nat×YOp R):=fun x d K=>nu l x d fun h x d=>oq G X h x d fun o=>K (h,o)
def oL:Nat->List Nat->Rd c (List (Option (Nat×Bool)×YOp R))|0,_=>fun x d K=>K [] x d|n+1,l=>fun x d K=>gu t41 t29 x d fun g x d=>oP G X l x d fun o x d=>oL n (gt pT o.1 t2) x d fun r=>K ((g,o.2)::r)
def rn:Nat->Nat->Rd c (B2 R)
 |0,_=>fun x d K=>K .nil x d|f+1,j=>fun x d K=>nu t18 x d fun h x d=>(match h with
  |0=>fun x d K=>K .nil x d|1=>fun x d K=>nu t19 x d fun i x d=>Df (j+i-32) fun i=>m4 (fun g s o r=>.op i g s o.2 r) (gu t41 t29) (ke t20 t48) (oP G X t21) (rn f (i+1)) x d K|2=>m2 .dr (ke t48 t44) (rn f j)|3=>m2 .nl (nl t46 t35 t47) (rn f j)|_=>m3 .both (nu t43) (rn f j) (rn f j):Rd c (B2 R)) x d K
def cd:Nat->List Nat->Rd c (G7 R)
 |0,_=>fun x d K=>K .dead x d|f+1,l=>fun x d K=>nu l x d fun h x d=>(match h with
  |0=>fun x d K=>K .skip x d|1=>m2 .region (fun x d K=>nu t28 x d fun n x d=>oL G X n t1 x d K) (kk t4 [[t45,t45],[t46,t45],[t43,t46]])|2=>m2 .RD (rn G X 900 0) (kk t4 [[t45,t45],[t46,t45],[t43,t46]])|3=>m2 .seq (cd f t0) (cd f t32)|4=>m3 .join cu (cd f t13) (cd f t32)|5=>fun x z K=>sl t35 x z fun n x z=>(kk t43 [[t43,t43],[t46,t45],[t0,t0]]) x z fun t x y=>(kk t43 [[t43,t43],[t46,t45],[t0,t0]]) x z fun e x z=>cd f t16 x y fun a x y=>Df (z / 1024*1024+y % 1024) fun z=>cd f t17 x z fun b x z=>
   Df ((y / 1024 |||z / 1024)*1024+z % 1024) fun z=>K (.cond n t e a b) x z
  |6=>m2 .block (nu t27) (cd f t14)|7=>m2 .loop cu (cd f t34)|8=>m1 .exit (nu t27)|9=>fun x d K=>K .ret x d|10=>m1 .scope (cd f t14)|11=>m2 .or (cd f t14) (cd f t14)|12=>fun x d K=>K .dead x d|_=>m2 .AeO cu (cd f t34):Rd c (G7 R)) x d K
end
end
end
end Y
noncomputable section
open Y
def dY{R:List GF}(n:Nat)(G:List GF)(X:List (YOp R):=[]):G7 R:=cd G X 300 t34 n 0 fun a _ _=>a
def gZ(ps:List PK)(rk:RK)(rs:List G6)(n:Nat)(G:List GF)(d:A ps->Option (Tu (rk.cs++NA ps)))(X:List (YOp []):=[])
 (hd:∀a,(YF.mk [] ps [] rk rs (dY n G X)).run a=d a:=by intro a;kernel_rfl) (hp:AME ps=true:=by rfl)
 (hf:([]:List Nat).map (fun n=>(([]:List GF)[n]?).map GF.x)=(fX ps).map some:=by rfl):GF:=YF.gf ⟨[],ps,[],rk,rs,dY n G X⟩ hp hf d hd
def A8J:RK:=.ret [.b]
def A9m:List G6:=[.tmp 6]
def BAE:List PK:=[.v (.st 1)]
def A8H:List G6:=[.tmp 2]
def ALa:List PK:=[.v (.st 1),.v (.st 2),.v .i]
def Ae8:List PK:=[.v (.st 8)]
def AZv:List PK:=[.v (.l .i),.v .i]
def A8I:List G6:=[.tmp 4]
def ACR:List PK:=[.v (.st 4),.v (.st 4)]
def A4O:RK:=.ret [.i]
def AEY:List PK:=[.v (.l (.st 4))]
def dK:List PK:=[.v (.st 6)]
def Qc:RK:=.ret [(.l (.st 5))]
def Aqu:List PK:=[.v (.st 7)]
def Qa:List PK:=[.v .i,.v .i]
def lS:RK:=.ret [(.l (.st 4))]
def Ak7:List PK:=[.v (.l (.st 4)),.v (.st 4)]
def AvS:List PK:=[.v (.l (.st 4)),.v (.l (.st 4))]
def AsD:List PK:=[.v (.l (.st 2)),.v .i]
def Amw:List PK:=[.v (.l (.st 5)),.v (.l (.st 5))]
def Awz:List PK:=[.v (.st 1),.v (.st 7),.v (.l (.st 2)),.v .i,.v .i]
def xY:List PK:=[.v (.st 10)]
def AvT:List PK:=[.v .i]
def A9G:List PK:=[.v (.st 11)]
def A87:RK:=.ret [(.l .i)]
def ZI:RK:=.ret [(.l .u)]
def dL:List PK:=[.v (.l .i)]
def xc:RK:=.ret [.s]
def Aw1:List PK:=[.v (.l .u)]
def xZ:List PK:=[.v (.st 8),.v .i]
def lT:RK:=.ret [(.st 1)]
def xh:List G6:=[.cell 2 (some 9)]
def Am1:RK:=.ret [(.st 3),.b]
def BC9:List G6:=[.cell 2 (some 15),.tmp 3]
def Am2:RK:=.ret [(.st 11),.b]
def BE1:List G6:=[.cell 2 (some 23),.tmp 3]
def Vd:RK:=.ret [(.st 6)]
def BCE:List G6:=[.cell 2 (some 1)]
def dN:RK:=.ret [(.st 7)]
def xi:List G6:=[.cell 2 (some 7)]
def AsG:RK:=.ret [(.st 11)]
def AvV:List G6:=[.cell 2 (some 23)]
def AOR:RK:=.ret [(.st 9),.b]
def BDA:List G6:=[.cell 4 (some 2),.tmp 5]
def Amz:List PK:=[.v (.st 11),.v (.st 0)]
def xj:List G6:=[.cell 4 (some 23),.tmp 5]
def A8p:RK:=.ret [(.st 8)]
def BDB:List G6:=[.cell 2 (some 15)]
def AjP:List PK:=[.v (.st 10),.v .i]
def ZG:List PK:=[.b (.st 17)]
def AEc:List PK:=[.b (.st 17),.v .i]
def AOE:List PK:=[.v (.st 6),.v (.st 5)]
def BBE:RK:=.ret [(.st 6),.b]
def A1p:List G6:=[.cell 4 (some 1),.tmp 5]
def AiY:RK:=.ret [(.st 9)]
def BCD:RK:=.ret [(.st 8),.i,.b]
def A2m:List G6:=[.cell 2 (some 15),.tmp 3,.tmp 4]
def Aw4:List G6:=[.cell 4 (some 15),.tmp 5,.tmp 6]
def AjS:RK:=.ret [(.l (.st 4)),.b]
def Als:List G6:=[.cell 2 (some 2)]
def AOJ:List PK:=[.v (.st 8),.v (.st 0)]
def AZw:List PK:=[.o (.st 8),.v (.st 2)]
def A0x:List G6:=[.cell 4 (some 15)]
def AOL:List PK:=[.v (.st 3),.v .i]
def Alw:List G6:=[.cell 4 (some 5),.tmp 5]
def Lo:RK:=.ret [(.st 8),.i]
def A99:List G6:=[.cell 4 (some 15),.tmp 5]
def Ve:RK:=.ret [(.st 10)]
def AOT:RK:=.ret [(.st 11),(.st 0)]
def xk:List G6:=[.cell 2 (some 23),.cell 3 (some 6)]
def Ayv:List G6:=[.cell 2 (some 6)]
end
end Lv
