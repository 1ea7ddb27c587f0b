/- The typed machine is right about the light one. -/
import Derived.Test.YtknihindefnhcaaGreatTB
set_option linter.all false
namespace Lv
namespace Y
open Go (IntKind BinOp UnOp)
noncomputable section
def Rd(c a:Type):Type:=Nat->Nat->(a->Nat->Nat->c)->c
section
variable{c i β j k l m:Type}
def gt:List i->Nat->i->i| [],_,a=>a|b::_,0,_=>b|_::l,n+1,a=>gt l n a
def rdE:List Nat->Nat->Nat->(Nat->Nat->c)->c
 | [],_,_,K=>K 0 0|e::l,r,q,K=>match Nat.blt r (e % 1024+1) with|true=>Dj ((e % 1024+1)*q+r) λx=>Dj (e / 1024) λs=>K s x|false=>rdE l (r-(e % 1024+1)) q K
def nu(l:List Nat):Rd c Nat:=λx d K=>rdE l (x % 1024) (x / 1024) λs x=>match Nat.beq s 999 with|true=>Dj (x % 1024) λs=>Dj (x / 1024) λx=>K s x d|false=>K s x d
def stp(z v:Nat):Nat:=(z / 1024 |||1 <<< (v+512))*1024+v
def dD(l:List Nat):Rd c Nat:=λx z K=>nu l x z λs x z=>Dj (z % 1024+s-160) λv=>Dj (stp z v) λz=>K v x z
def dA(l:List Nat):Rd c Nat:=λx z K=>nu l x z λv x z=>Dj (stp z v) λz=>K v x z
def sl(l:List Nat):Rd c Nat:=λx z K=>nu l x z λs x z=>Dj (z % 1024+160-s) λv=>K v x z
def m1(f:i->β)(a:Rd c i):Rd c β:=λx d K=>a x d λu x d=>K (f u) x d
def m2(f:i->β->j)(a:Rd c i)(b:Rd c β):Rd c j:=λx d K=>a x d λu x d=>b x d λv x d=>K (f u v) x d
def m3(f:i->β->j->k)(a:Rd c i)(b:Rd c β)(e:Rd c j):Rd c k:=λx d K=>a x d λu x d=>b x d λv x d=>e x d λw x d=>K (f u v w) x d
def m4(f:i->β->j->k->l)(a:Rd c i)(b:Rd c β)(e:Rd c j)(g:Rd c k):Rd c l:=λx d K=>a x d λu x d=>m3 (f u) b e g x d K
def m5(f:i->β->j->k->l->m)(a:Rd c i)(b:Rd c β)(e:Rd c j)(g:Rd c k)(h:Rd c l):Rd c m:=λx d K=>a x d λu x d=>m4 (f u) b e g h x d K
def rep(m:Rd c i):Nat->Rd c (List i)|0=>λx d K=>K [] x d|n+1=>m2 .cons m (rep m n)
def li(l:List Nat)(m:Rd c i):Rd c (List i):=λx d K=>nu l x d λn x d=>rep m n x d K
def kd(e:List Nat):Nat->Nat->Rd c (List Nat)|0,_=>λx d K=>K [] x d|n+1,p=>λx d K=>nu e x d λs x d=>Dj (p+s) λv=>kd e n v x d λr=>K (v::r)
def ke(l e:List Nat):Rd c (List Nat):=λx d K=>nu l x d λn x d=>kd e n 0 x d K
def kp(t:List (List (List Nat)))(d:Nat):Nat->Nat->Nat->Nat->Nat->Nat->(List Nat->Nat->c)->c
 |0,_,_,_,_,x,K=>K [] x|f+1,i,o,w,p,x,K=>match Nat.beq (o |||w) 0 with
  |true=>K [] x|false=>Dj (o / 2) λo'=>Dj (w / 2) λw'=>Dj (i+1) λj=>match Nat.beq ((o |||w) % 2) 0 with
   |true=>kp t d f j o' w' p x K|false=>rdE (gt (gt t (match Nat.beq i d with|true=>0|false=>1+w % 2) []) p []) (x % 1024) (x / 1024) λs x=>match s with|0=>kp t d f j o' w' 0 x K|_=>kp t d f j o' w' 1 x λr=>K (i::r)
def bits:List Nat->Nat->Nat| [],a=>a|i::r,a=>Dj (a |||1 <<< i) λa=>bits r a
def cN(l:List Nat):Rd c Nat:=λx z K=>nu l x z λv x z=>Dj ((z / 1024 |||1 <<< (v+512))*1024+z % 1024) λz=>K v x z
def ix(t:List i)(a:i)(l:List Nat):Rd c i:=m1 (λn=>gt t n a) (nu l)
def t0:List Nat:=[1817,3172,2091,6181,4124,5136,1022976]
def t1:List Nat:=[387,7318,1172,13424,10325,4169,5139,3085,6156,14347,1022979]
def t2:List Nat:=[1023155,524439,409740,162883,543789,539686,150550,158741,155668,157716,159763,160786,147471,153615,154638,151565,148493,144397,161805,156685,549901,149516,146444,139274,540682,135177,145417,152584,143368,137224,138248,142343,141319,140295,136199,122884]
def t3:List Nat:=[932,1114]
def t4:List Nat:=[165302,410875,409694,1023041,165928,411683,412689,418830,414733,413707,415755,548872,417799,575494]
def t5:List Nat:=[1488,196,2175,10299,13363,16425,12327,1023004,5130]
def t6:List Nat:=[2031,15375]
def t7:List Nat:=[418,1200,12371,1023050,512065,7214,6186,11292,4111,18445,19468,23563,13322,16392,21512]
def t8:List Nat:=[7628,3481,1093,2093,4124,1022983]
def t9:List Nat:=[540166,165368]
def t10:List Nat:=[165382,524792]
def t11:List Nat:=[573,8432,3239,1050,4108,1022976]
def t12:List Nat:=[1264,3197,15467,101,7238,13379,8257,19511,16431,4129,21534,10266,24588,1022988,6153,2057]
def t13:List Nat:=[607,16489,3125,11305,6184,7206,2079,10269,5142,24598,8204,27656,1022979]
def t14:List Nat:=[16633,13495,146,10339,8278,17476,7204,6175,3101,1043,24592,5133,18445,14346,19461,1022981]
def t15:List Nat:=[7978,8348,13367]
def t16:List Nat:=[1326,15581,5208,2133,10307,23616,6204,7200,4127,26647,9237,3090]
def t17:List Nat:=[164393,1023191,183322,182292,178194,175118,187406,171022,179212,189452,174091,177163,169994,185354,186377,219145,191497,184329,195593,188425,162825]
def t18:List Nat:=[164176,165153,1023137,165964,166945,159764,145424,157711,160782,153611,158730,150538,156682,155657]
def t19:List Nat:=[1921,73,2072,4111,3082]
def t20:List Nat:=[33666,33829,1022999,34835,35852,29704,36871,28676,26627,37891]
def t21:List Nat:=[919,1074,2074,3082,4102,8195,1022979]
def t22:List Nat:=[210,7363,13448,16478,14415,8254,10297,15392,3096,1046,5138,9232,2063,19469,6155,11270,17412,20484,24579,1022979]
def t23:List Nat:=[8869,1319,3116,1022980]
def t24:List Nat:=[164045,165069,166079,167047,168036,169030,170030,171031,172040,1022984,173063,175111,174086]
def t25:List Nat:=[383,9373,5240,10329,8280,2090,6185,14373,20511,15382,1022979]
def t26:List Nat:=[166386,165203,167050,168978,167950,1022987]
def t27:List Nat:=[168131,169110,170107,167032,171114,172125,173111,165928,177175,174100,164882,1022993,175120,176142,179209,543753]
def t28:List Nat:=[264,1143,4194,2134,11319,3124,9262,6188,5163,12325,7200,13339,8217,14353,15376,10253,1022989,22539,21511]
def t29:List Nat:=[148,3176,5210,1023058,1093,4164,6206,7229,2100,8230,9248,10267,11279,13326,17420,12299,18443,20491,409610,16393,14344,15367,19463,21509,24581,23557,22533,29700,25604,28675,51202,58370,30722,31746,26626]
def t30:List Nat:=[4074,1022996]
def t31:List Nat:=[164856,1022982]
def t32:List Nat:=[926,2097,1070]
def t33:List Nat:=[381,1331,2173,3136,4140,5145,6168,8206,7179,9223,10245,1022981]
def t34:List Nat:=[1280,11484,2194,103,13373,12347,10279,3107,8213,1022997,6159,16396,9224,5128,15365]
def t35:List Nat:=[3473,9416,5318,4185,1089,6205,1022979]
def t36:List Nat:=[717257,165277,1023073,410677]
def t37:List Nat:=[701,1345]
def t38:List Nat:=[259,10470,16503,13426,1075,15401,17448,14372,24601,7185,6158,11278,5130,8202,1022986,19462,18438,20484]
def t39:List Nat:=[1961,1023013,8201,15368,2056,9223,6150,20484]
def t40:List Nat:=[2272,3268,1197,4202,5183,6202,1023024,7207,8230,9234,10250,14344,12296,11271,13316,16386,15362,28674]
def t41:List Nat:=[165882,1022980]
def t42:List Nat:=[165329,166024,166998,1023026,167983,410654,168989,409621,170004,171025,173065,174088,540679,176135,175110,413702,177158,172038,178182,411652,415748,412676,181252,414723,541699,471042,179202,416770,421890,186370]
def t43:List Nat:=[165638,1023041,165925,166931,167951,169992,168967,171014,175110,172037,173061,178180,179204,174084,177156,176132,181252,161795,182274,185346,160770,180226,189442,183298,188418,157698,184321,158721,159745,186369]
def t44:List Nat:=[22088,1310,8341,1022977]
def t45:List Nat:=[1628,418]
def t46:List Nat:=[3588,1249,166,6197,2089,4105,8198,1022976]
def t47:List Nat:=[2480,1449,3190,32,1022982,4101]
def t48:List Nat:=[1014,1032]
def t49:List Nat:=[1885,161]
def t50:List Nat:=[449,1395,2249]
def t51:List Nat:=[4282,5293,2171,6245,3157,7242,1023036,8239,9248,13343,10269,11280,16396,12300,14345,1033,15364,20483]
def uT:List (U):=[.bool false,.int .i64 1048576,.np,.int .i64 28285,.int .i64 4000,.int .i64 131,.int .i64 1073741823,.int .i64 6364136223846793005,.int .i64 1442695040888963407,.int .u64 33,.int .u64 45,.int .i64 255,.int .i64 256,.int .i64 16777216,.int .i64 65536,.bool true,.int .i64 (-1),.int .i64 1000000,.int .i64 999,.nil,.int .i64 1000008,.int .i64 1000001,.int .i64 2147483647,.int .i64 127,.int .i64 128,.str [],.int .i64 4294967295,.int .i64 3988292384,.int .u64 24,.int .u64 16,.int .u64 8,.int .i64 9223372036854775807,.int .i64 (-9223372036854775808),.int .i64 20000,.int .i64 9999,.int .i64 (-5),.int .i64 1000,.int .i64 10000,.int .i64 10000000,.int .i64 (-9),.int .i64 1000009,.int .i64 1000002,.str [48,49,50,51,52,53,54,55,56,57],.int .i64 19989,.int .i64 19990,.int .i64 999999,.int .i64 30000,.str [97],.str [115,111,109,101,32,98,121,116,101,115],.str [0,1,2,3],.int .u64 1,.int .u64 4294967296,.int .u64 32,.int .u64 65536,.int .u64 256,.sl .i []]
def hT:List (Sh):=[.one]
def cT:List (C):=[.i,.b,.u,.st 1,.st 6,.st 5,.l (.st 5),.st 8,.st 7,.st 2,.st 4,.l (.st 4),.l .i,.l .u,.st 0,.st 12,.l (.st 12),.st 9,.l (.st 2),.l (.st 7),.st 15,.l (.st 15),.st 10,.st 11,.l (.st 0),.st 13,.st 14,.st 3,.s,.m]
def nT:List (List (Nat×C)):=[[(0,.i)],[(0,.l (.st 5))],[(5,.st 4),(6,.l (.st 5))],[(5,.st 4)],[(0,.i),(11,.st 2),(12,.st 7),(13,.i),(14,.i)],[(11,.st 2),(12,.st 7),(13,.i),(14,.i)],[(0,.st 5)],[(0,.st 4)],[(0,.u)],[(0,.i),(11,.st 2),(12,.st 7),(13,.i),(14,.i),(22,.st 0)],[(22,.st 0)],[(0,.i),(11,.st 2),(12,.st 7),(13,.i),(14,.i),(22,.st 0),(23,.st 0),(24,.st 12)],[(23,.st 0),(24,.st 12)],[(0,.st 12)],[(0,.st 2)],[(1,.i)],[(0,.st 15)],[(0,.st 0)],[(6,.l (.st 5))],[(12,.st 7)]]
def zT:List (List U):=[[.nil,.int .i64 0,.int .i64 0],[.nil,.int .i64 0,.int .i64 0,.int .i64 0,.int .i64 0,.int .i64 0,.int .i64 0,.int .i64 0,.int .i64 0],[.int .i64 0,.int .i64 0,.int .i64 0,.int .i64 0,.int .i64 0],[.nil],[.int .i64 0,.int .i64 0,.int .i64 0,.int .i64 0,.int .i64 0,.nil,.nil],[.nil,.int .i64 0,.int .i64 0,.int .i64 0,.int .i64 0,.int .i64 0,.int .i64 0,.int .i64 0,.int .i64 0,.int .i64 0,.int .i64 0,.nil,.nil,.nil,.nil],[.int .i64 0,.int .i64 0,.int .i64 0,.int .i64 0,.int .i64 0,.int .i64 0,.int .i64 0,.int .i64 0,.int .i64 0,.int .i64 0],[.int .i64 0,.int .i64 0,.int .i64 0,.int .i64 0],[.int .i64 0,.int .i64 0],[.nil,.int .i64 0,.int .i64 0,.int .i64 0,.int .i64 0,.int .i64 0,.int .i64 0,.int .i64 0,.int .i64 0,.int .i64 0,.int .i64 0,.nil,.nil,.nil,.nil,.str [],.int .i64 0,.str [],.int .i64 0,.str [],.int .i64 0,.int .i64 0,.nil],[.str [],.int .i64 0],[.str [],.int .i64 0,.str [],.int .i64 0,.str [],.int .i64 0],[.nil,.int .i64 0,.int .i64 0,.int .i64 0,.int .i64 0,.int .i64 0,.int .i64 0,.int .i64 0,.int .i64 0,.int .i64 0,.int .i64 0,.nil,.nil,.nil,.nil,.str [],.int .i64 0,.str [],.int .i64 0,.str [],.int .i64 0,.int .i64 0,.nil,.nil,.nil,.int .i64 0],[.int .i64 0,.int .i64 0,.int .i64 0,.int .i64 0,.int .i64 0,.int .i64 0],[.int .i64 0,.nil],[.nil,.int .i64 0,.bool false],[.int .i64 0,.str [],.int .i64 0]]
def bT:List (Cls×BinOp):=[(.num,.gtr),(.num,.add),(.num,.lss),(.num,.mul),(.num,.and),(.num,.quo),(.num,.shr),(.num,.xor),(.num,.leq),(.num,.rem),(.num,.geq),(.num,.eql),(.num,.sub),(.num,.neq),(.agg [.i,.i,.i,.i],.neq),(.agg [.i,.i],.neq),(.agg [.i,.i,.i,.i,.i,.i],.eql),(.agg [.i,.i],.eql),(.num,.shl),(.num,.or),(.sl,.eql),(.agg [.i,.i,.i,.i,.i],.eql),(.agg [.i,.i,.i,.i,.i,.i,.i,.i,.i,.i],.neq)]
def UT:List (UnOp):=[.not]
def kT:List (IntKind):=[.i64,.u8,.u64]
def aT:List (AL):=[.val (.st 17) (some (.old 0)),.val (.st 16) (some (.old 0)),.al (.cell 5 0),.num .u64,.val (.l .i) (some (.old 0)),.al (.cell 7 0)]
def pT:List (List Nat):=[t38,t44,t12,t44,t12,t12,t12,t14,t39,t12,t5,t50,t12,t15,t12,t12,t34,t38,t12,t12,t12,t23,t12,t12]
def kk(g:List Nat)(t:List (List (List Nat))):Rd c (List Nat):=λx z K=>nu g x z λs x z=>match s with|0=>kp t (z % 1024) 512 0 (z / 1024 % 2 ^ 512) (z / 1024 / 2 ^ 512) 1 x λr x=>Dj (bits r 0*1024+z % 1024) λz=>K r x z|_=>ke t40 t33 x z λr x z=>Dj (bits r 0*1024+z % 1024) λz=>K r x z
def od(l:List Nat)(q:Nat->Nat->Nat:=λz s=>z % 1024+160-s):Rd c YO:=λx d K=>nu l x d λs x d=>match Nat.blt s 400 with
 |true=>Dj (q d s) λv=>K (.tmp v) x d|false=>match Nat.blt s 512 with|true=>Dj (s-400) λv=>K (.k (.int .i64 (Int.ofNat v))) x d|false=>K (.k (gt uT (s-512) .nil)) x d
def oo(l:List Nat):Rd c (Option YO):=λx d K=>nu l x d λs x d=>match Nat.blt s 400 with
 |true=>Dj (d % 1024+160-s) λv=>K (some (.tmp v)) x d|false=>match Nat.blt s 512 with
  |true=>Dj (s-400) λv=>K (some (.k (.int .i64 (Int.ofNat v)))) x d|false=>match Nat.blt s 700 with|true=>K (some (.k (gt uT (s-512) .nil))) x d|false=>K none x d
def on(l:List Nat):Rd c (Option Nat):=m1 (λn=>match n with|0=>none|n+1=>some n) (nu l)
def bo(l:List Nat):Rd c Bool:=m1 (λn=>match n with|0=>false|_=>true) (nu l)
def gu(l e:List Nat):Rd c (Option (Nat×Bool)):=λx d K=>nu l x d λs x d=>match s with|0=>K none x d|1=>sl e x d λv=>K (some (v,false))|_=>sl e x d λv=>K (some (v,true))
def nl(a b e:List Nat):Rd c (List (CN×C)):=m3 (λk s p=>p.map λq=>(match k with|false=>.cell s q.1|true=>.tmp s q.1,q.2)) (bo a) (sl b) (ix nT [] e)
def aL(l:List Nat):Rd c AL:=λx d K=>nu l x d λs x d=>match Nat.blt s 500 with|true=>K (.val (gt cT s .i) none) x d|false=>K (gt aT (s-500) (.num .i64)) x d
def cu:Rd c Cut:=li t47 (m4 (λb n h a=>(b,n,h,a)) (bo t37) (cN t29) (ix hT .one t48) (li t6 (aL t7)))
variable{R:List GF}
def cl(d:Nat)(g:Option GF)(l:List YO):YOp R:=match g with
 |none=>.bad none|some g=>match h:fX g.ps with| []=>.call d g [] (by rw[h];rfl) l|_::_=>.bad none
section
variable(G:List GF)(X:List (YOp R))
def oq:Nat->Rd c (YOp R)|0=>m2 .mv (dD t43) (od t29 λ_ s=>s)|1=>m2 .as (dA t51) (od t2)|2=>m4 .pick (dD t41) (od t27) (od t9) (od t10)|3=>m2 .alloc (dA t51) (ix zT [] t51)|4=>m2 .box (dD t26) (od t26)|5=>m3 .build (dD t43) (ix zT [] t51) (li t33 (m3 (λa b e=>(a,b,e)) (nu t28) (nu t39) (od t42)))|6=>m4 .CF (dD t43) (nu t33) (ix cT .i t25) (li t33 (m2 .mk (nu t33) (od t42)))|7=>m3 .ld (dD t43) (on t13) (od t43)|8=>m3 .st (nu t16) (od t17) (od t18)|9=>m2 .chk (dD t41) (od t42)|10=>m4 (λd b x y=>.bin d b.1 b.2 x y) (dD t43) (ix bT (.num,.add) t34) (od t42) (od t4)|11=>m3 .un (dD t41) (ix UT .not t48) (od t41)|12=>m3 .cvI (dD t43) (ix kT .i64 t50) (od t41)|13=>m3 .fa (dD t43) (nu t28) (od t40 λ_ s=>s)|14=>m4 .ia (dD t41) (ix cT .i t25) (od t42) (od t42)|15=>m3 .ext (dD t42) (od t27) (nu t50)|16=>m3 cl (dD t43) (ix (G.map some) none t33) (li t47 (od t42))|17=>m2 .len (dD t41) (od t41)|18=>m2 .lens (dD t41) (od t41)|19=>m5 .app (dD t43) (ix cT .i t25) (bo t49) (od t27) (od t41)|20=>m5 .sub (dD t41) (ix cT .i t25) (od t26) (oo t36) (oo t36)|21=>m1 .SL (nl t37 t31 t28)|22=>m2 .RA (dD t41) (od t41)|23=>m4 .Xl (dD t43) (od t42) (oo t36) (oo t36)|_=>ix X (.bad none) t33
def oP(l:List Nat):Rd c (Nat×YOp R):=λx d K=>nu l x d λh x d=>oq G X h x d λo=>K (h,o)
def oL:Nat->List Nat->Rd c (List (Option (Nat×Bool)×YOp R))|0,_=>λx d K=>K [] x d|n+1,l=>λx d K=>gu t32 t24 x d λg x d=>oP G X l x d λo x d=>oL n (gt pT o.1 t12) x d λr=>K ((g,o.2)::r)
def rn:Nat->Nat->Rd c (B4 R)
 |0,_=>λx d K=>K .nil x d|f+1,j=>λx d K=>nu t19 x d λh x d=>(match h with
  |0=>λx d K=>K .nil x d|1=>λx d K=>nu t20 x d λi x d=>Dj (j+i-32) λi=>m4 (λg s o r=>.op i g s o.2 r) (gu t32 t24) (ke t21 t29) (oP G X t22) (rn f (i+1)) x d K|2=>m2 .dr (ke t29 t39) (rn f j)|3=>m2 .nl (nl t37 t31 t29) (rn f j)|_=>m3 .both (nu t48) (rn f j) (rn f j):Rd c (B4 R)) x d K
def cd:Nat->List Nat->Rd c (Hp R)
 |0,_=>λx d K=>K .dead x d|f+1,l=>λx d K=>nu l x d λh x d=>(match h with
  |0=>λx d K=>K .skip x d|1=>m2 .region (λx d K=>nu t40 x d λn x d=>oL G X n t1 x d K) (kk t3 [[t45,t49],[t45,t49],[t48,t37]])|2=>m2 .W9 (rn G X 900 0) (kk t3 [[t45,t49],[t45,t49],[t48,t37]])|3=>m2 .seq (cd f t0) (cd f t35)|4=>m3 .join cu (cd f t46) (cd f t35)|5=>λx z K=>sl t31 x z λn x z=>(kk t48 [[t48,t48],[t37,t49],[t0,t0]]) x z λt x y=>(kk t48 [[t48,t48],[t37,t49],[t0,t0]]) x z λe x z=>cd f t46 x y λa x y=>Dj (z / 1024*1024+y % 1024) λz=>cd f t11 x z λb x z=>
   Dj ((y / 1024 |||z / 1024)*1024+z % 1024) λz=>K (.cond n t e a b) x z
  |6=>m2 .block (nu t33) (cd f t8)|7=>m2 .loop cu (cd f t30)|8=>m1 .exit (nu t33)|9=>λx d K=>K .ret x d|10=>m1 .scope (cd f t8)|11=>m2 .or (cd f t8) (cd f t8)|12=>λx d K=>K .dead x d|_=>m2 .ATl cu (cd f t30):Rd c (Hp R)) x d K
end
end
end
end Y
noncomputable section
open Y
def sB:List UInt8->Nat->Nat
 | [],a=>a|b::l,a=>Dj b.toNat λc=>Dj (a*62+match Nat.blt c 58 with|true=>c-48|false=>match Nat.blt c 91 with|true=>c-55|false=>c-61) λa=>sB l a
def sN:List String->Nat->Nat| [],a=>a|s::l,a=>Dj (sB s.toByteArray.data.toList a) λa=>sN l a
def dY{R:List GF}(n:List String)(G:List GF)(X:List (YOp R):=[]):Hp R:=Dj (sN n 0) λn=>cd G X 300 t30 n 0 λa _ _=>a
def gZ(ps:List PK)(rk:RK)(rs:List IF)(n:List String)(G:List GF)(d:A ps->Option (Tu (rk.cs++NR ps)))(X:List (YOp []):=[])
 (hd:∀a,(YF.mk [] ps [] rk rs (dY n G X)).run a=d a:=by intro a;kernel_rfl) (hp:ADq ps=true:=by rfl)
 (hf:([]:List Nat).map (λn=>(([]:List GF)[n]?).map GF.x)=(fX ps).map some:=by rfl):GF:=YF.gf ⟨[],ps,[],rk,rs,dY n G X⟩ hp hf d hd
def ASe:List PK:=[.v .i,.v .i,.v .i]
def Dk:RK:=.ret [.b]
def U0:List IF:=[.tmp 6]
def ZZ:List PK:=[.v (.st 1)]
def DY:List IF:=[.tmp 2]
def eT:List PK:=[.v (.st 1),.v (.st 2),.v .i]
def Za:List PK:=[.v (.st 8)]
def si:List PK:=[.v (.l .i),.v .i]
def DA:List IF:=[.tmp 4]
def ASl:List PK:=[.v (.st 4),.v (.st 4)]
def AGQ:List PK:=[.v (.l (.st 4)),.v .i]
def Dd:RK:=.ret [.i]
def xm:List PK:=[.v (.l (.st 4))]
def bz:List PK:=[.v (.st 6)]
def XO:RK:=.ret [(.l (.st 5))]
def xn:List PK:=[.v (.st 7)]
def xp:List PK:=[.v .i,.v .i]
def cD:RK:=.ret [(.l (.st 4))]
def AGR:List PK:=[.v (.l (.st 4)),.v (.st 4)]
def ASf:List PK:=[.v (.l (.st 4)),.v (.l (.st 4))]
def ASg:List PK:=[.v (.l (.st 5)),.v (.st 5)]
def RG:List PK:=[.v (.l (.st 2)),.v .i]
def ASh:List PK:=[.v (.l (.st 5)),.v (.l (.st 5))]
def ASi:List PK:=[.v (.st 1),.v (.st 7),.v (.l (.st 2)),.v .i,.v .i]
def mg:List PK:=[.v (.st 9)]
def OP:List PK:=[.v (.st 10)]
def Uw:List PK:=[.v .i]
def mh:List PK:=[.v (.st 11)]
def P1:RK:=.ret [(.l .i)]
def AGU:RK:=.ret [(.l .u)]
def cA:List PK:=[.v (.l .i)]
def MO:RK:=.ret [.s]
def xq:List PK:=[.v (.l .u)]
def Gr:List PK:=[.v (.st 8),.v .i]
def AGV:RK:=.ret [(.st 1)]
def AGX:List IF:=[.cell 2 (some 9)]
def Uy:RK:=.ret [(.st 3),.b]
def yA:List IF:=[.cell 2 (some 15),.tmp 3]
def mn:RK:=.ret [(.st 11),.b]
def yB:List IF:=[.cell 2 (some 23),.tmp 3]
def Uz:RK:=.ret [(.st 9)]
def mq:List IF:=[.cell 2 (some 2)]
def xw:RK:=.ret [(.st 6)]
def yC:List IF:=[.cell 2 (some 1)]
def mo:RK:=.ret [(.st 7)]
def yD:List IF:=[.cell 2 (some 7)]
def AGW:RK:=.ret [(.st 11)]
def AGY:List IF:=[.cell 2 (some 23)]
def xx:RK:=.ret [(.st 9),.b]
def yE:List IF:=[.cell 4 (some 2),.tmp 5]
def AGZ:List IF:=[.cell 4 (some 23),.tmp 5]
def P2:RK:=.ret [(.st 8)]
def AGa:List IF:=[.cell 2 (some 15)]
def Ux:List PK:=[.v .s]
def xy:RK:=.ret [(.l (.st 15))]
def mi:List PK:=[.v (.st 10),.v .i]
def Ga:List PK:=[.b (.st 17)]
def AGS:List PK:=[.b (.st 17),.v .i]
def xt:List PK:=[.v (.st 6),.v (.st 5)]
def cE:RK:=.ret [(.st 6),.b]
def yF:List IF:=[.cell 4 (some 1),.tmp 5]
def yG:List IF:=[.cell 4 (some 6)]
def yH:List IF:=[.cell 4 (some 2)]
def cF:RK:=.ret [(.st 8),.i,.b]
def yI:List IF:=[.cell 2 (some 15),.tmp 3,.tmp 4]
def yJ:List IF:=[.cell 4 (some 15),.tmp 5,.tmp 6]
def xz:RK:=.ret [(.l (.st 4)),.b]
def yK:List IF:=[.tmp 4,.tmp 5]
def mj:List PK:=[.v (.st 8),.v (.st 0)]
def xu:List PK:=[.v (.st 2),.v .i]
def xv:List PK:=[.o (.st 8),.v (.st 2)]
def XP:List IF:=[.cell 4 (some 15)]
def cB:List PK:=[.v (.st 3),.v .i]
def cI:List IF:=[.cell 4 (some 5),.tmp 5]
def ASj:List PK:=[.v (.st 8),.v .i,.v .i,.v .i,.v .i,.v .i]
def MP:RK:=.ret [(.st 8),.i]
def ASq:List IF:=[.cell 12 (some 15),.tmp 13]
def OQ:List IF:=[.cell 4 (some 15),.tmp 5]
def ASr:List IF:=[.cell 6 (some 15),.tmp 7]
def ASs:List IF:=[.cell 6 (some 10),.tmp 7]
def AGT:List PK:=[.o (.st 8),.v .i]
def ASm:RK:=.ret [(.st 8),(.l .i)]
def ASn:RK:=.ret [(.st 8),.i,(.l .i)]
def ASo:RK:=.ret [(.st 8),(.st 12)]
def ASt:List IF:=[.cell 4 (some 15),.cell 5 (some 2)]
def ASk:List PK:=[.v (.st 8),.v (.l (.st 0))]
def ASp:RK:=.ret [(.st 8),(.l (.st 12))]
def cC:List PK:=[.b (.st 3),.p .i]
def cG:RK:=.ret []
def ml:List PK:=[.v (.st 9),.v .i]
def cH:RK:=.ret [(.st 10)]
def AGb:List IF:=[.cell 2 (some 6)]
end
end Lv
