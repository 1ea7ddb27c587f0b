/- The typed machine is right about the light one. -/
import Derived.Test.YtdmpkjjlnjchkaaGreatTB
set_option linter.unusedVariables false
set_option linter.unusedSimpArgs false
set_option linter.unusedSectionVars false
namespace Lv
namespace Y
open Go (IntKind BinOp UnOp)
noncomputable section
def Rd(c a:Type):Type:=Nat->Nat->(a->Nat->Nat->c)->c
section
variable{c α β γ δ ε ζ:Type}
def gt:List α->Nat->α->α| [],_,a=>a|b::_,0,_=>b|_::l,n+1,a=>gt l n a
def rdE:List Nat->Nat->Nat->(Nat->Nat->c)->c
 | [],_,_,K=>K 0 0|e::l,r,q,K=>match Nat.blt r (e % 1024+1) with|true=>Df ((e % 1024+1)*q+r) fun x=>Df (e / 1024) fun s=>K s x|false=>rdE l (r-(e % 1024+1)) q K
def nu(l:List Nat):Rd c Nat:=fun x d K=>rdE l (x % 1024) (x / 1024) fun s x=>match Nat.beq s 999 with|true=>Df (x % 1024) fun s=>Df (x / 1024) fun x=>K s x d|false=>K s x d
def stp(z v:Nat):Nat:=(z / 1024 |||1 <<< (v+512))*1024+v
def dD(l:List Nat):Rd c Nat:=fun x z K=>nu l x z fun s x z=>Df (z % 1024+s-160) fun v=>Df (stp z v) fun z=>K v x z
def dA(l:List Nat):Rd c Nat:=fun x z K=>nu l x z fun v x z=>Df (stp z v) fun z=>K v x z
def sl(l:List Nat):Rd c Nat:=fun x z K=>nu l x z fun s x z=>Df (z % 1024+160-s) fun v=>K v x z
def m1(f:α->β)(a:Rd c α):Rd c β:=fun x d K=>a x d fun u x d=>K (f u) x d
def m2(f:α->β->γ)(a:Rd c α)(b:Rd c β):Rd c γ:=fun x d K=>a x d fun u x d=>b x d fun v x d=>K (f u v) x d
def m3(f:α->β->γ->δ)(a:Rd c α)(b:Rd c β)(e:Rd c γ):Rd c δ:=fun x d K=>a x d fun u x d=>b x d fun v x d=>e x d fun w x d=>K (f u v w) x d
def m4(f:α->β->γ->δ->ε)(a:Rd c α)(b:Rd c β)(e:Rd c γ)(g:Rd c δ):Rd c ε:=fun x d K=>a x d fun u x d=>m3 (f u) b e g x d K
def m5(f:α->β->γ->δ->ε->ζ)(a:Rd c α)(b:Rd c β)(e:Rd c γ)(g:Rd c δ)(h:Rd c ε):Rd c ζ:=fun x d K=>a x d fun u x d=>m4 (f u) b e g h x d K
def rep(m:Rd c α):Nat->Rd c (List α)|0=>fun x d K=>K [] x d|n+1=>m2 .cons m (rep m n)
def li(l:List Nat)(m:Rd c α):Rd c (List α):=fun x d K=>nu l x d fun n x d=>rep m n x d K
def kd(e:List Nat):Nat->Nat->Rd c (List Nat)|0,_=>fun x d K=>K [] x d|n+1,p=>fun x d K=>nu e x d fun s x d=>Df (p+s) fun v=>kd e n v x d fun r=>K (v::r)
def ke(l e:List Nat):Rd c (List Nat):=fun x d K=>nu l x d fun n x d=>kd e n 0 x d K
def kp(t:List (List (List Nat)))(d:Nat):Nat->Nat->Nat->Nat->Nat->Nat->(List Nat->Nat->c)->c
 |0,_,_,_,_,x,K=>K [] x|f+1,i,o,w,p,x,K=>match Nat.beq (o |||w) 0 with
  |true=>K [] x|false=>Df (o / 2) fun o'=>Df (w / 2) fun w'=>Df (i+1) fun j=>match Nat.beq ((o |||w) % 2) 0 with
   |true=>kp t d f j o' w' p x K|false=>rdE (gt (gt t (match Nat.beq i d with|true=>0|false=>1+w % 2) []) p []) (x % 1024) (x / 1024) fun s x=>match s with|0=>kp t d f j o' w' 0 x K|_=>kp t d f j o' w' 1 x fun r=>K (i::r)
def bits:List Nat->Nat->Nat| [],a=>a|i::r,a=>Df (a |||1 <<< i) fun a=>bits r a
def cN(l:List Nat):Rd c Nat:=fun x z K=>nu l x z fun v x z=>Df ((z / 1024 |||1 <<< (v+512))*1024+z % 1024) fun z=>K v x z
def ix(t:List α)(a:α)(l:List Nat):Rd c α:=m1 (fun n=>gt t n a) (nu l)
def t0:List Nat:=[1806,3193,2086,6180,4120,5136,1022976]
def t1:List Nat:=[343,1225,13462,7300,4177,10297,5136,14347,3083,6153,1022978]
def t2:List Nat:=[526544,1023142,409741,527408,525356,524315,162841,150552,156693,159763,157713,155665,154641,144400,158736,151566,147469,160780,143371,141323,153611,152587,148490,161802,146442,145417,149513,544776,139271,138247,142343,135175,136198,137221,140293]
def t3:List Nat:=[147,1160,5213,1023064,3134,6206,4158,7223,2094,8231,9249,10268,11282,409618,13325,17420,20491,12298,18442,16392,24583,14343,19462,15365,23557,31748,28676,26627,21507]
def t4:List Nat:=[1436,212,2218,10300,13360,12336,16418,1023008]
def t5:List Nat:=[3722,253,1102,1022990,2061,8202]
def t6:List Nat:=[671,8430,3150,1044,4106,1022977]
def t7:List Nat:=[1289,120,3185,15460,7248,8249,13364,19503,4141,16422,21529,10263,24589,1022988,2059,6151]
def t8:List Nat:=[8041,8312,13340]
def t9:List Nat:=[636,16485,3126,11304,6184,2081,7201,10266,5141,8208,24582,1022982]
def t10:List Nat:=[16630,13554,137,10357,8255,17463,7199,3099,6170,24592,1039,5130,1022985,14344,18439]
def t11:List Nat:=[11578,1213,180,2146,13388,3126,16409,8215,1022995,10252,15372,14346]
def t12:List Nat:=[481,14533,3163,1023036,1072,15397,6177,4114,10257,13324,21513,23561]
def t13:List Nat:=[7649,3485,1082,2080,4122,1022984]
def t14:List Nat:=[1351,15627,5221,2132,10309,6179,4129,7200,9241,3096,23565,1022978]
def t15:List Nat:=[164419,1023210,183326,182296,178198,187408,169998,171022,179213,181259,184331,175115,186378,177162,162826]
def t16:List Nat:=[165179,164152,1023158,165960,166950,145427,159762,157712,150538,151562,168970,153610]
def t17:List Nat:=[8857,1334,3111,1022982]
def t18:List Nat:=[33694,33823,1022999,34829,35848,29703,28677,36867]
def t19:List Nat:=[943,1061,2068,3080,1022982,8196]
def t20:List Nat:=[165406,527840]
def t21:List Nat:=[526878,165344]
def t22:List Nat:=[260,1147,2137,3134,4157,5177,11320,6192,12334,9255,13345,7200,8222,14356,10257,22537,15368,21512,1022983]
def t23:List Nat:=[391,5254,8323,2154,7267,1072,20518,22561,12307,16399]
def t24:List Nat:=[168113,170144,169116,171110,167011,172123,173114,165924,177179,164884,1022996,176145,174094,525323,175115,179209]
def t25:List Nat:=[165068,164044,166081,167053,168042,169023,170026,171030,172040,1022984,173063,175111,174086]
def t26:List Nat:=[223,7380,13438,14430,16462,8246,10293,15389,3094,9238,1042,2066,5133,11275,19463,6150,1022982,17412,24580,20484]
def t27:List Nat:=[165424,166011,167006,409647,1023023,410662,167959,168981,169997,175111,471047,528391,413702,415749,524293,411653]
def t28:List Nat:=[4327,5247,3191,2160,6220,1023041,7228,8232,9242,10264,1041,15,13323,11274,18441,16392,21511,20486,15366,14342,17414,12293,30723,132099,35843,22531]
def t29:List Nat:=[2267,1241,3260,4194,5193,6198,1023019,8226,7201,9231,10248,12296,14343,11270,13315,16386]
def t30:List Nat:=[274,10487,13421,16457,17470,1084,14376,15395,24606,7184,11276,8202,1022985,6152,5128,19461,18436,20484]
def t31:List Nat:=[914,2107,1072]
def t32:List Nat:=[165240,166219,167060,167995,1023023,168977,169994,171018,174086,176133,178180]
def t33:List Nat:=[3489,9438,5307,4173,1084,6196,1022978]
def t34:List Nat:=[4073,1022997]
def t35:List Nat:=[164856,1022982]
def t36:List Nat:=[934,1112]
def t37:List Nat:=[7374,2230,1190,5230,100,6184,3107,4130,10269,8214,15377,12301,9228,14348,1022988,13321,11272]
def t38:List Nat:=[165881,165892,1022976]
def t39:List Nat:=[22069,1345,8327]
def t40:List Nat:=[1839,207]
def t41:List Nat:=[668,1378]
def t42:List Nat:=[165641,1023038,165911,166932,167950,169996,171019,168969,175111,173062,172038,177158,178181,174085,179204,176132,181252,182275,185347,183299,180226,184322,189442,161794,186369,160769,190465,187393]
def t43:List Nat:=[392,1376,2156,3126,4131,5141,6162,8201,7176,9221,10245,1022981]
def t44:List Nat:=[1388,2383,3334,6191,4104,1022978]
def t45:List Nat:=[1014,1032]
def t46:List Nat:=[1941,76,2060,4103,3079]
def t47:List Nat:=[1976,1022998,15374,9223,2054,8197,20485,6149]
def t48:List Nat:=[165333,410854,409701,1023029,165932,716827,411670,418826,414729,415752,543752,412680,413703,534535,417798]
def t49:List Nat:=[1541,2347,175,3101]
def uT:List (U):=[.int .i64 (-1),.nil,.bool false,.bool true,.int .i64 1000000,.int .i64 999,.int .i64 1000008,.int .i64 1000001,.int .i64 20000,.int .i64 9999,.int .u64 1,.int .u64 4294967296,.int .u64 32,.int .u64 65536,.int .u64 16,.int .u64 256,.int .u64 8,.int .i64 2147483647,.int .i64 127,.int .i64 128,.str [],.int .i64 4294967295,.int .i64 3988292384,.int .u64 24,.int .i64 (-5),.int .i64 1048576,.sl .i []]
def hT:List (Sh):=[.one]
def cT:List (C):=[.i,.l (.st 5),.st 7,.l .i,.l (.st 2),.st 2,.l (.st 4),.st 4,.st 5,.l (.l (.st 5)),.l (.st 7),.l (.st 0),.st 0,.st 6,.b,.st 8,.st 12,.l (.st 12),.st 9,.m,.u,.l .u,.st 15,.l (.st 15)]
def nT:List (List (Nat×C)):=[[(0,.i)],[(0,.st 2)],[(0,.st 4)],[(0,.st 5)],[(0,.l (.st 5))],[(5,.st 4),(6,.l (.st 5))],[(0,.st 7)],[(0,.i),(11,.st 2),(12,.st 7),(13,.i),(14,.i)],[(0,.st 0)],[(0,.i),(11,.st 2),(12,.st 7),(13,.i),(14,.i),(22,.st 0)],[(1,.i)],[(0,.st 12)],[(12,.st 7)],[(0,.u)],[(11,.st 2),(12,.st 7),(13,.i),(14,.i)],[(0,.st 15)],[(6,.l (.st 5))],[(22,.st 0)],[(0,.i),(11,.st 2),(12,.st 7),(13,.i),(14,.i),(22,.st 0),(23,.st 0),(24,.st 12)]]
def zT:List (List U):=[[.nil,.int .i64 0,.int .i64 0,.int .i64 0,.int .i64 0,.int .i64 0,.int .i64 0,.int .i64 0,.int .i64 0],[.int .i64 0,.int .i64 0,.int .i64 0,.int .i64 0,.int .i64 0,.int .i64 0,.int .i64 0,.int .i64 0,.int .i64 0,.int .i64 0],[.int .i64 0,.int .i64 0,.int .i64 0,.int .i64 0,.int .i64 0],[.int .i64 0,.int .i64 0,.int .i64 0,.int .i64 0],[.int .i64 0,.int .i64 0],[.nil],[.int .i64 0,.int .i64 0,.int .i64 0,.int .i64 0,.int .i64 0,.nil,.nil],[.nil,.int .i64 0,.int .i64 0,.int .i64 0,.int .i64 0,.int .i64 0,.int .i64 0,.int .i64 0,.int .i64 0,.int .i64 0,.int .i64 0,.nil,.nil,.nil,.nil],[.str [],.int .i64 0],[.str [],.int .i64 0,.str [],.int .i64 0,.str [],.int .i64 0],[.int .i64 0,.int .i64 0,.int .i64 0,.int .i64 0,.int .i64 0,.int .i64 0],[.nil,.int .i64 0,.int .i64 0,.int .i64 0,.int .i64 0,.int .i64 0,.int .i64 0,.int .i64 0,.int .i64 0,.int .i64 0,.int .i64 0,.nil,.nil,.nil,.nil,.str [],.int .i64 0,.str [],.int .i64 0,.str [],.int .i64 0,.int .i64 0,.nil],[.int .i64 0,.nil],[.nil,.int .i64 0,.bool false],[.int .i64 0,.str [],.int .i64 0],[.nil,.int .i64 0,.int .i64 0,.int .i64 0,.int .i64 0,.int .i64 0,.int .i64 0,.int .i64 0,.int .i64 0,.int .i64 0,.int .i64 0,.nil,.nil,.nil,.nil,.str [],.int .i64 0,.str [],.int .i64 0,.str [],.int .i64 0,.int .i64 0,.nil,.nil,.nil,.int .i64 0]]
def bT:List (Cls×BinOp):=[(.num,.sub),(.num,.lss),(.num,.add),(.num,.geq),(.num,.leq),(.num,.eql),(.num,.gtr),(.num,.neq),(.num,.rem),(.num,.quo),(.agg [.i,.i,.i,.i],.neq),(.agg [.i,.i],.neq),(.agg [.i,.i,.i,.i,.i,.i],.eql),(.num,.mul),(.agg [.i,.i],.eql),(.num,.shr),(.num,.xor),(.num,.and),(.num,.shl),(.num,.or),(.sl,.eql),(.agg [.i,.i,.i,.i,.i],.eql),(.agg [.i,.i,.i,.i,.i,.i,.i,.i,.i,.i],.neq),(.bool,.neq)]
def UT:List (UnOp):=[.not]
def kT:List (IntKind):=[.u64,.i64,.u8]
def aT:List (AL):=[.num .u64,.val (.st 16) (some (.old 0)),.al (.cell 5 0),.val (.l .i) (some (.old 0)),.al (.cell 7 0)]
def pT:List (List Nat):=[t30,t39,t7,t39,t7,t7,t7,t10,t47,t7,t4,t49,t7,t8,t7,t7,t11,t30,t7,t7,t7,t17,t7,t7]
def kk(g:List Nat)(t:List (List (List Nat))):Rd c (List Nat):=fun x z K=>nu g x z fun s x z=>match s with|0=>kp t (z % 1024) 512 0 (z / 1024 % 2 ^ 512) (z / 1024 / 2 ^ 512) 1 x fun r x=>Df (bits r 0*1024+z % 1024) fun z=>K r x z|_=>ke t29 t43 x z fun r x z=>Df (bits r 0*1024+z % 1024) fun z=>K r x z
def od(l:List Nat)(q:Nat->Nat->Nat:=fun z s=>z % 1024+160-s):Rd c YO:=fun x d K=>nu l x d fun s x d=>match Nat.blt s 400 with
 |true=>Df (q d s) fun v=>K (.tmp v) x d|false=>match Nat.blt s 512 with|true=>Df (s-400) fun v=>K (.k (.int .i64 (Int.ofNat v))) x d|false=>K (.k (gt uT (s-512) .nil)) x d
def oo(l:List Nat):Rd c (Option YO):=fun x d K=>nu l x d fun s x d=>match Nat.blt s 400 with
 |true=>Df (d % 1024+160-s) fun v=>K (some (.tmp v)) x d|false=>match Nat.blt s 512 with
  |true=>Df (s-400) fun v=>K (some (.k (.int .i64 (Int.ofNat v)))) x d|false=>match Nat.blt s 700 with|true=>K (some (.k (gt uT (s-512) .nil))) x d|false=>K none x d
def on(l:List Nat):Rd c (Option Nat):=m1 (fun n=>match n with|0=>none|n+1=>some n) (nu l)
def bo(l:List Nat):Rd c Bool:=m1 (fun n=>match n with|0=>false|_=>true) (nu l)
def gu(l e:List Nat):Rd c (Option (Nat×Bool)):=fun x d K=>nu l x d fun s x d=>match s with|0=>K none x d|1=>sl e x d fun v=>K (some (v,false))|_=>sl e x d fun v=>K (some (v,true))
def nl(a b e:List Nat):Rd c (List (CV×C)):=m3 (fun k s p=>p.map fun q=>(match k with|false=>.cell s q.1|true=>.tmp s q.1,q.2)) (bo a) (sl b) (ix nT [] e)
def aL(l:List Nat):Rd c AL:=fun x d K=>nu l x d fun s x d=>match Nat.blt s 500 with|true=>K (.val (gt cT s .i) none) x d|false=>K (gt aT (s-500) (.num .i64)) x d
def cu:Rd c Cut:=li t49 (m4 (fun b n h a=>(b,n,h,a)) (bo t36) (cN t28) (ix hT .one t45) (li t47 (aL t12)))
variable{R:List GF}
def cl(d:Nat)(g:Option GF)(l:List YO):YOp R:=match g with
 |none=>.bad none|some g=>match h:fX g.ps with| []=>.call d g [] (by rw[h];rfl) l|_::_=>.bad none
section
variable(G:List GF)(X:List (YOp R))
def oq:Nat->Rd c (YOp R)|0=>m2 .mv (dD t42) (od t3 fun _ s=>s)|1=>m2 .as (dA t28) (od t2)|2=>m4 .pick (dD t38) (od t24) (od t20) (od t21)|3=>m2 .alloc (dA t28) (ix zT [] t37)|4=>m2 .box (dD t32) (od t32)|5=>m3 .build (dD t42) (ix zT [] t37) (li t43 (m3 (fun a b e=>(a,b,e)) (nu t22) (nu t47) (od t42)))|6=>m4 .B7 (dD t42) (nu t43) (ix cT .i t23) (li t43 (m2 .mk (nu t43) (od t42)))|7=>m3 .ld (dD t42) (on t9) (od t42)|8=>m3 .st (nu t14) (od t15) (od t16)|9=>m2 .chk (dD t38) (od t42)|10=>m4 (fun d b x y=>.bin d b.1 b.2 x y) (dD t42) (ix bT (.num,.add) t37) (od t32) (od t48)|11=>m3 .un (dD t38) (ix UT .not t45) (od t38)|12=>m3 .cvI (dD t38) (ix kT .i64 t49) (od t38)|13=>m3 .fa (dD t42) (nu t22) (od t29 fun _ s=>s)|14=>m4 .ia (dD t38) (ix cT .i t23) (od t32) (od t27)|15=>m3 .ext (dD t42) (od t24) (nu t43)|16=>m3 cl (dD t42) (ix (G.map some) none t43) (li t44 (od t27))|17=>m2 .len (dD t38) (od t38)|18=>m2 .lens (dD t38) (od t38)|19=>m5 .app (dD t42) (ix cT .i t23) (bo t46) (od t24) (od t38)|20=>m5 .sub (dD t38) (ix cT .i t23) (od t32) (oo t48) (oo t48)|21=>m1 .Zk (nl t41 t35 t37)|22=>m2 .Ru (dD t38) (od t38)|23=>m4 .dk (dD t38) (od t25) (oo t48) (oo t48)|_=>ix X (.bad none) t43
def oP(l:List Nat):Rd c (Nat×YOp R):=fun x d K=>nu l x d fun h x d=>oq G X h x d fun o=>K (h,o)
def oL:Nat->List Nat->Rd c (List (Option (Nat×Bool)×YOp R))|0,_=>fun x d K=>K [] x d|n+1,l=>fun x d K=>gu t31 t25 x d fun g x d=>oP G X l x d fun o x d=>oL n (gt pT o.1 t7) x d fun r=>K ((g,o.2)::r)
def rn:Nat->Nat->Rd c (B2 R)
 |0,_=>fun x d K=>K .nil x d|f+1,j=>fun x d K=>nu t46 x d fun h x d=>(match h with
  |0=>fun x d K=>K .nil x d|1=>fun x d K=>nu t18 x d fun i x d=>Df (j+i-32) fun i=>m4 (fun g s o r=>.op i g s o.2 r) (gu t31 t25) (ke t19 t28) (oP G X t26) (rn f (i+1)) x d K|2=>m2 .dr (ke t26 t47) (rn f j)|3=>m2 .nl (nl t41 t35 t37) (rn f j)|_=>m3 .both (nu t45) (rn f j) (rn f j):Rd c (B2 R)) x d K
def cd:Nat->List Nat->Rd c (G7 R)
 |0,_=>fun x d K=>K .dead x d|f+1,l=>fun x d K=>nu l x d fun h x d=>(match h with
  |0=>fun x d K=>K .skip x d|1=>m2 .region (fun x d K=>nu t29 x d fun n x d=>oL G X n t1 x d K) (kk t36 [[t40,t46],[t41,t40],[t45,t41]])|2=>m2 .RD (rn G X 900 0) (kk t36 [[t40,t46],[t41,t40],[t45,t41]])|3=>m2 .seq (cd f t0) (cd f t33)|4=>m3 .join cu (cd f t44) (cd f t33)|5=>fun x z K=>sl t35 x z fun n x z=>(kk t45 [[t45,t45],[t41,t40],[t0,t0]]) x z fun t x y=>(kk t45 [[t45,t45],[t41,t40],[t0,t0]]) x z fun e x z=>cd f t5 x y fun a x y=>Df (z / 1024*1024+y % 1024) fun z=>cd f t6 x z fun b x z=>
   Df ((y / 1024 |||z / 1024)*1024+z % 1024) fun z=>K (.cond n t e a b) x z
  |6=>m2 .block (nu t43) (cd f t13)|7=>m2 .loop cu (cd f t34)|8=>m1 .exit (nu t43)|9=>fun x d K=>K .ret x d|10=>m1 .scope (cd f t13)|11=>m2 .or (cd f t13) (cd f t13)|12=>fun x d K=>K .dead x d|_=>m2 .AeO cu (cd f t34):Rd c (G7 R)) x d K
end
end
end
end Y
noncomputable section
open Y
def dY{R:List GF}(n:Nat)(G:List GF)(X:List (YOp R):=[]):G7 R:=cd G X 300 t34 n 0 fun a _ _=>a
def gZ(ps:List PK)(rk:RK)(rs:List G6)(n:Nat)(G:List GF)(d:A ps->Option (Tu (rk.cs++NA ps)))(X:List (YOp []):=[])
 (hd:∀a,(YF.mk [] ps [] rk rs (dY n G X)).run a=d a:=by intro a;kernel_rfl) (hp:AME ps=true:=by rfl)
 (hf:([]:List Nat).map (fun n=>(([]:List GF)[n]?).map GF.x)=(fX ps).map some:=by rfl):GF:=YF.gf ⟨[],ps,[],rk,rs,dY n G X⟩ hp hf d hd
def nU:List PK:=[.v (.l .i),.v .i]
def Cm:RK:=.ret [.i]
def Bz:List G6:=[.tmp 4]
def Wb:List PK:=[.v (.l (.st 2)),.v .i]
def ALa:List PK:=[.v (.l (.st 4)),.v .i]
def Ae8:List PK:=[.v (.st 6),.v .i]
def AZv:List PK:=[.v (.st 8),.v .i]
def IE:List PK:=[.v (.st 9),.v .i]
def ACR:List PK:=[.v (.st 10),.v .i]
def ACS:List PK:=[.v (.l .i)]
def lr:RK:=.ret [(.l .i)]
def b9:List G6:=[.tmp 2]
def Aic:List PK:=[.v (.st 1)]
def Am0:RK:=.ret [(.st 1)]
def Am4:List G6:=[.cell 2 (some 9)]
def lS:RK:=.ret [(.l (.st 2))]
def Ak7:List PK:=[.v (.l (.st 4))]
def AON:RK:=.ret [(.l (.st 4))]
def Ak9:List G6:=[.cell 2 (some 2)]
def Amw:List PK:=[.v (.l (.st 5))]
def Aid:RK:=.ret [(.l (.st 5))]
def xY:List PK:=[.v (.st 6)]
def dM:RK:=.ret [(.st 6)]
def ZJ:List G6:=[.cell 2 (some 1)]
def AOC:List PK:=[.v (.st 7)]
def ZI:RK:=.ret [(.st 7)]
def Am5:List G6:=[.cell 2 (some 7)]
def mh:List PK:=[.v (.st 8)]
def mz:RK:=.ret [(.st 8)]
def xZ:List PK:=[.v (.st 9)]
def lT:RK:=.ret [(.st 9)]
def ez:List PK:=[.v (.st 10)]
def Am1:RK:=.ret [(.st 10)]
def Alo:List PK:=[.v (.st 0)]
def Am2:RK:=.ret [(.l (.st 0))]
def lQ:List PK:=[.v (.st 11)]
def Amx:List PK:=[.v .i,.v .i,.v .i]
def ah:RK:=.ret [.b]
def nk:List G6:=[.tmp 6]
def AiX:List PK:=[.v (.st 1),.v (.st 2),.v .i]
def AEb:List PK:=[.v (.st 4),.v (.st 4)]
def Amy:List PK:=[.v (.st 5),.v (.st 5)]
def Alp:List PK:=[.v .i,.v .i]
def Oa:List PK:=[.v (.l (.st 4)),.v (.st 4)]
def Amz:List PK:=[.v (.l (.st 4)),.v (.l (.st 4))]
def Aoh:List PK:=[.v (.l (.st 5)),.v (.st 5)]
def AOD:List PK:=[.v (.l (.st 5)),.v (.l (.st 5))]
def Aoi:List PK:=[.v (.st 1),.v (.st 7),.v (.l (.st 2)),.v .i,.v .i]
def AjP:List PK:=[.v .i]
def ZG:List PK:=[.v (.l .i),.v (.l .i)]
def AEc:List PK:=[.v (.st 1),.v (.st 1)]
def AOE:List PK:=[.v (.l (.st 2)),.v (.l (.st 2))]
def AEd:List PK:=[.v (.st 6),.v (.st 6)]
def AOF:List PK:=[.v (.st 7),.v (.st 7)]
def AiY:RK:=.ret [.s]
def AZt:List PK:=[.v .s]
def Alr:RK:=.ret [(.l (.st 15))]
def AZu:List PK:=[.v (.st 6),.v (.st 5)]
def AjS:RK:=.ret [(.st 6),.b]
def Als:List G6:=[.cell 4 (some 1),.tmp 5]
def Am6:List G6:=[.cell 2 (some 15),.tmp 3]
def Alu:List G6:=[.cell 4 (some 2)]
def AjT:RK:=.ret [(.st 8),.i,.b]
def Alv:List G6:=[.cell 2 (some 15),.tmp 3,.tmp 4]
def Alw:List G6:=[.cell 4 (some 15),.tmp 5,.tmp 6]
def Ak8:List PK:=[.v (.st 8),.v (.st 0)]
def Qb:List PK:=[.v (.st 2),.v .i]
def Alq:List PK:=[.o (.st 8),.v (.st 2)]
def Aif:List G6:=[.cell 4 (some 15)]
def Aie:RK:=.ret [(.st 3),.b]
def AjQ:List PK:=[.v (.st 3),.v .i]
def lZ:List G6:=[.cell 4 (some 5),.tmp 5]
def Aoj:List PK:=[.v (.st 8),.v .i,.v .i,.v .i,.v .i,.v .i]
def eo:RK:=.ret [(.st 8),.i]
def Aoo:List G6:=[.cell 12 (some 15),.tmp 13]
def Am3:RK:=.ret [(.l (.st 4)),.b]
def Am7:List G6:=[.tmp 4,.tmp 5]
def fz:List G6:=[.cell 4 (some 15),.tmp 5]
def Aop:List G6:=[.cell 6 (some 15),.tmp 7]
def Aoq:List G6:=[.cell 6 (some 10),.tmp 7]
def AEe:List PK:=[.o (.st 8),.v .i]
def lV:RK:=.ret [(.st 8),(.l .i)]
def Aol:RK:=.ret [(.st 8),.i,(.l .i)]
def Aom:RK:=.ret [(.st 8),(.st 12)]
def AEn:List G6:=[.cell 4 (some 15),.cell 5 (some 2)]
def Aok:List PK:=[.v (.st 8),.v (.l (.st 0))]
def Aon:RK:=.ret [(.st 8),(.l (.st 12))]
def AjR:List PK:=[.b (.st 3),.p .i]
def AEi:RK:=.ret []
def AEq:List G6:=[.cell 2 (some 23),.tmp 3]
def xb:List PK:=[.v (.st 13),.v (.l .i)]
end
end Lv
