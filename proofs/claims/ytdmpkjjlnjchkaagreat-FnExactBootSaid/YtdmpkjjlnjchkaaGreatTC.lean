/- The typed machine is right about the light one. -/
import Derived.Test.YtdmpkjjlnjchkaaGreatTB
set_option linter.unusedVariables false
set_option linter.unusedSimpArgs false
set_option linter.unusedSectionVars false
namespace Lv
namespace Y
open Go (IntKind BinOp UnOp)
noncomputable section
def Rd(c a:Type):Type:=Nat->Nat->(a->Nat->Nat->c)->c
section
variable{c α β γ δ ε ζ:Type}
def gt:List α->Nat->α->α| [],_,a=>a|b::_,0,_=>b|_::l,n+1,a=>gt l n a
def rdE:List Nat->Nat->Nat->(Nat->Nat->c)->c
 | [],_,_,K=>K 0 0|e::l,r,q,K=>match Nat.blt r (e % 1024+1) with|true=>Df ((e % 1024+1)*q+r) fun x=>Df (e / 1024) fun s=>K s x|false=>rdE l (r-(e % 1024+1)) q K
def nu(l:List Nat):Rd c Nat:=fun x d K=>rdE l (x % 1024) (x / 1024) fun s x=>match Nat.beq s 999 with|true=>Df (x % 1024) fun s=>Df (x / 1024) fun x=>K s x d|false=>K s x d
def stp(z v:Nat):Nat:=(z / 1024 |||1 <<< (v+512))*1024+v
def dD(l:List Nat):Rd c Nat:=fun x z K=>nu l x z fun s x z=>Df (z % 1024+s-160) fun v=>Df (stp z v) fun z=>K v x z
def dA(l:List Nat):Rd c Nat:=fun x z K=>nu l x z fun v x z=>Df (stp z v) fun z=>K v x z
def sl(l:List Nat):Rd c Nat:=fun x z K=>nu l x z fun s x z=>Df (z % 1024+160-s) fun v=>K v x z
def m1(f:α->β)(a:Rd c α):Rd c β:=fun x d K=>a x d fun u x d=>K (f u) x d
def m2(f:α->β->γ)(a:Rd c α)(b:Rd c β):Rd c γ:=fun x d K=>a x d fun u x d=>b x d fun v x d=>K (f u v) x d
def m3(f:α->β->γ->δ)(a:Rd c α)(b:Rd c β)(e:Rd c γ):Rd c δ:=fun x d K=>a x d fun u x d=>b x d fun v x d=>e x d fun w x d=>K (f u v w) x d
def m4(f:α->β->γ->δ->ε)(a:Rd c α)(b:Rd c β)(e:Rd c γ)(g:Rd c δ):Rd c ε:=fun x d K=>a x d fun u x d=>m3 (f u) b e g x d K
def m5(f:α->β->γ->δ->ε->ζ)(a:Rd c α)(b:Rd c β)(e:Rd c γ)(g:Rd c δ)(h:Rd c ε):Rd c ζ:=fun x d K=>a x d fun u x d=>m4 (f u) b e g h x d K
def rep(m:Rd c α):Nat->Rd c (List α)|0=>fun x d K=>K [] x d|n+1=>m2 .cons m (rep m n)
def li(l:List Nat)(m:Rd c α):Rd c (List α):=fun x d K=>nu l x d fun n x d=>rep m n x d K
def kd(e:List Nat):Nat->Nat->Rd c (List Nat)|0,_=>fun x d K=>K [] x d|n+1,p=>fun x d K=>nu e x d fun s x d=>Df (p+s) fun v=>kd e n v x d fun r=>K (v::r)
def ke(l e:List Nat):Rd c (List Nat):=fun x d K=>nu l x d fun n x d=>kd e n 0 x d K
def kp(t:List (List (List Nat)))(d:Nat):Nat->Nat->Nat->Nat->Nat->Nat->(List Nat->Nat->c)->c
 |0,_,_,_,_,x,K=>K [] x|f+1,i,o,w,p,x,K=>match Nat.beq (o |||w) 0 with
  |true=>K [] x|false=>Df (o / 2) fun o'=>Df (w / 2) fun w'=>Df (i+1) fun j=>match Nat.beq ((o |||w) % 2) 0 with
   |true=>kp t d f j o' w' p x K|false=>rdE (gt (gt t (match Nat.beq i d with|true=>0|false=>1+w % 2) []) p []) (x % 1024) (x / 1024) fun s x=>match s with|0=>kp t d f j o' w' 0 x K|_=>kp t d f j o' w' 1 x fun r=>K (i::r)
def bits:List Nat->Nat->Nat| [],a=>a|i::r,a=>Df (a |||1 <<< i) fun a=>bits r a
def cN(l:List Nat):Rd c Nat:=fun x z K=>nu l x z fun v x z=>Df ((z / 1024 |||1 <<< (v+512))*1024+z % 1024) fun z=>K v x z
def ix(t:List α)(a:α)(l:List Nat):Rd c α:=m1 (fun n=>gt t n a) (nu l)
def t0:List Nat:=[1801,3199,6180,2084,4121,5136,1022976]
def t1:List Nat:=[379,1227,7301,13436,4168,10297,5136,14347,6153,3079,1022978]
def t2:List Nat:=[1278,3177,13416,15463,93,7242,8244,19506,4136,16422,21531,10264,24590,1022988,2059,6151]
def t3:List Nat:=[526527,1023159,409741,527404,525351,524320,157721,162840,150549,158737,144400,155663,147471,159759,156686,154638,146445,160780,152588,151563,149515,161802,139274,153609,148489,145417,143369,544777,135176,141320,142343,138247,410630,137222,140293,136197,122885]
def t4:List Nat:=[8040,8303,13350]
def t5:List Nat:=[642,16492,3124,6185,11305,7201,2077,10267,5142,8203,1022983]
def t6:List Nat:=[16612,13518,179,10354,8254,17460,7205,3100,6172,1041,24593,5132,1022987,18441,14345]
def t7:List Nat:=[2344,1235,7297,5240,90,6188,3105,1023006,15381,4111,8205,13322]
def t8:List Nat:=[3722,252,1103,1022990,2061,8202]
def t9:List Nat:=[670,8429,3151,1045,4106,1022977]
def t10:List Nat:=[11574,1247,185,2134,13365,3125,16414,8218,1022997,10253,15373]
def t11:List Nat:=[1340,15647,5229,2128,10313,4129,7196,3098,6169,9241,23563]
def t12:List Nat:=[164405,1023248,183329,182298,178197,187408,171024,169998,179214,175117,184331,177163]
def t13:List Nat:=[164154,165105,1023189,166004,166962,145428,159764,157714,168971,153611]
def t14:List Nat:=[8853,1337,3112,1022982]
def t15:List Nat:=[1618,2272,3178,96]
def t16:List Nat:=[518,5285,10322,3117,1023020,7202,9249,16412,18454,19469,2059,21512,23560]
def t17:List Nat:=[7650,3486,4140,1062,2080,1022984]
def t18:List Nat:=[33697,33822,1023001,34829,35848,29703,28677]
def t19:List Nat:=[944,1059,2069,3080,1022982,8196]
def t20:List Nat:=[164071,165095,166105,167044,168022,169017,170015,171021,175112,1022984]
def t21:List Nat:=[527890,165356]
def t22:List Nat:=[165394,526828]
def t23:List Nat:=[452,1264,2151,3142,4152,5152,6170,7182,8203,9222,1022979]
def t24:List Nat:=[168089,169087,164970,167006,170075,171087,165953,172090,1023022,173100,163873,177178,174103,176144,178188,175116,179207,180231,525318]
def t25:List Nat:=[150,5269,1161,1023058,3128,4151,6195,7219,2095,8227,9247,10266,11281,409612,13323,12298,20490,16393,18441,17416,14343,15366,21509,24581,19460,23556,28675,26627,22530]
def t26:List Nat:=[225,7376,13438,14433,16455,8249,10294,15391,3096,9240,1042,2063,5133,11272,19464,6150,17413,24581,1022981,20484]
def t27:List Nat:=[367,6294,4225,8304,1129,3116,20517,22560,13343,1022983]
def t28:List Nat:=[289,10506,13398,16456,14396,1081,17458,15393,24601,7180,11275,8201,6152,1022984,5127,19461,18436,20484]
def t29:List Nat:=[937,1109]
def t30:List Nat:=[4071,1022999]
def t31:List Nat:=[164855,1022983]
def t32:List Nat:=[22044,1369,8328]
def t33:List Nat:=[4338,5249,2168,3188,6221,7229,1023035,8234,1062,9242,10261,13324,11276,18441,15366,14341,16389,12293,17413,21508,20484,132100]
def t34:List Nat:=[3480,9431,5311,4179,1089,6197,1022978]
def t35:List Nat:=[165355,410837,409683,165962,1023033,411671,414730,412682,415753,418825,413704,175110,543750,177157,534533]
def t36:List Nat:=[165647,1023045,165910,166930,167949,169995,171016,168967,173063,175111,179205,177157,172037,176132,178180,174084,181252,182275,185347,184323,160770,180226,183298,189442,161794,188417,186369]
def t37:List Nat:=[1231,2250,3256,4191,5189,6206,1023030,7209,8230,9231,14345,10249,12295,11270,15364,16387,13314]
def t38:List Nat:=[929,2095,1069]
def t39:List Nat:=[165884,1022978]
def t40:List Nat:=[165248,166227,167058,167991,1023028,168975,169993,174085,171013,176132]
def t41:List Nat:=[1551,230,2154,10270,12308,3092,13330,1022992,16397,4105,6153,5127,8198]
def t42:List Nat:=[1846,200]
def t43:List Nat:=[439,1367,2287]
def t44:List Nat:=[655,1391]
def t45:List Nat:=[1385,2370,3346,6194,4104,1022979]
def t46:List Nat:=[243,1133,2142,9305,3141,5185,4153,11311,6190,8232,12322,13345,7198,10270,14354,1022980]
def t47:List Nat:=[1014,1032]
def t48:List Nat:=[1943,73,2061,4103,3079]
def t49:List Nat:=[165386,166027,167011,410669,409645,1023016,167964,168985,716820,169996,471049,528392,524295,171013,413701]
def t50:List Nat:=[1983,1023000,15373,9222,8197,20485,6149]
def uT:List (U):=[.int .i64 (-1),.nil,.bool false,.bool true,.int .i64 1000000,.int .i64 999,.int .i64 1000008,.int .i64 1000001,.int .i64 20000,.int .i64 9999,.int .u64 1,.int .u64 4294967296,.int .u64 32,.int .u64 65536,.int .u64 16,.int .u64 256,.int .u64 8,.int .i64 2147483647,.int .i64 127,.int .i64 128,.str [],.int .i64 4294967295,.int .i64 3988292384,.int .u64 24,.int .i64 (-5),.int .i64 1048576]
def hT:List (Sh):=[.one]
def cT:List (C):=[.i,.st 4,.st 6,.l (.st 5),.st 5,.b,.st 2,.l (.st 4),.st 7,.st 8,.l .i,.st 12,.l (.st 12),.st 0,.st 9,.m,.l (.st 2),.l (.l (.st 5)),.l (.st 7),.l (.st 0),.u,.l .u,.st 15,.l (.st 15)]
def nT:List (List (Nat×C)):=[[(0,.i)],[(0,.st 4)],[(0,.l (.st 5))],[(5,.st 4),(6,.l (.st 5))],[(0,.st 5)],[(0,.i),(11,.st 2),(12,.st 7),(13,.i),(14,.i)],[(0,.st 2)],[(1,.i)],[(0,.st 12)],[(12,.st 7)],[(0,.u)],[(11,.st 2),(12,.st 7),(13,.i),(14,.i)],[(0,.st 15)],[(6,.l (.st 5))],[(0,.st 0)],[(0,.i),(11,.st 2),(12,.st 7),(13,.i),(14,.i),(22,.st 0)],[(22,.st 0)]]
def zT:List (List U):=[[.str [],.int .i64 0],[.str [],.int .i64 0,.str [],.int .i64 0,.str [],.int .i64 0],[.nil,.int .i64 0,.int .i64 0,.int .i64 0,.int .i64 0,.int .i64 0,.int .i64 0,.int .i64 0,.int .i64 0],[.nil],[.int .i64 0,.int .i64 0,.int .i64 0,.int .i64 0,.int .i64 0,.nil,.nil],[.int .i64 0,.int .i64 0,.int .i64 0,.int .i64 0,.int .i64 0,.int .i64 0,.int .i64 0,.int .i64 0,.int .i64 0,.int .i64 0],[.int .i64 0,.int .i64 0,.int .i64 0,.int .i64 0],[.int .i64 0,.int .i64 0],[.int .i64 0,.int .i64 0,.int .i64 0,.int .i64 0,.int .i64 0,.int .i64 0],[.nil,.int .i64 0,.int .i64 0,.int .i64 0,.int .i64 0,.int .i64 0,.int .i64 0,.int .i64 0,.int .i64 0,.int .i64 0,.int .i64 0,.nil,.nil,.nil,.nil],[.int .i64 0,.int .i64 0,.int .i64 0,.int .i64 0,.int .i64 0],[.int .i64 0,.nil],[.nil,.int .i64 0,.bool false],[.int .i64 0,.str [],.int .i64 0],[.nil,.int .i64 0,.int .i64 0,.int .i64 0,.int .i64 0,.int .i64 0,.int .i64 0,.int .i64 0,.int .i64 0,.int .i64 0,.int .i64 0,.nil,.nil,.nil,.nil,.str [],.int .i64 0,.str [],.int .i64 0,.str [],.int .i64 0,.int .i64 0,.nil]]
def bT:List (Cls×BinOp):=[(.num,.sub),(.num,.lss),(.num,.add),(.num,.geq),(.num,.leq),(.num,.eql),(.num,.gtr),(.num,.neq),(.num,.rem),(.num,.quo),(.agg [.i,.i,.i,.i],.neq),(.agg [.i,.i],.neq),(.agg [.i,.i,.i,.i,.i,.i],.eql),(.num,.mul),(.agg [.i,.i],.eql),(.num,.shr),(.num,.xor),(.num,.and),(.num,.shl),(.num,.or),(.sl,.eql),(.bool,.neq)]
def UT:List (UnOp):=[.not]
def kT:List (IntKind):=[.u64,.i64,.u8]
def aT:List (AL):=[.num .u64,.val (.st 16) (some (.old 0)),.al (.cell 5 0),.val (.l .i) (some (.old 0)),.al (.cell 7 0)]
def pT:List (List Nat):=[t28,t32,t2,t32,t2,t2,t2,t6,t50,t2,t41,t43,t2,t4,t2,t2,t10,t28,t2,t2,t2,t14,t2,t2]
def kk(g:List Nat)(t:List (List (List Nat))):Rd c (List Nat):=fun x z K=>nu g x z fun s x z=>match s with|0=>kp t (z % 1024) 512 0 (z / 1024 % 2 ^ 512) (z / 1024 / 2 ^ 512) 1 x fun r x=>Df (bits r 0*1024+z % 1024) fun z=>K r x z|_=>ke t37 t41 x z fun r x z=>Df (bits r 0*1024+z % 1024) fun z=>K r x z
def od(l:List Nat)(q:Nat->Nat->Nat:=fun z s=>z % 1024+160-s):Rd c YO:=fun x d K=>nu l x d fun s x d=>match Nat.blt s 400 with
 |true=>Df (q d s) fun v=>K (.tmp v) x d|false=>match Nat.blt s 512 with|true=>Df (s-400) fun v=>K (.k (.int .i64 (Int.ofNat v))) x d|false=>K (.k (gt uT (s-512) .nil)) x d
def oo(l:List Nat):Rd c (Option YO):=fun x d K=>nu l x d fun s x d=>match Nat.blt s 400 with
 |true=>Df (d % 1024+160-s) fun v=>K (some (.tmp v)) x d|false=>match Nat.blt s 512 with
  |true=>Df (s-400) fun v=>K (some (.k (.int .i64 (Int.ofNat v)))) x d|false=>match Nat.blt s 700 with|true=>K (some (.k (gt uT (s-512) .nil))) x d|false=>K none x d
def on(l:List Nat):Rd c (Option Nat):=m1 (fun n=>match n with|0=>none|n+1=>some n) (nu l)
def bo(l:List Nat):Rd c Bool:=m1 (fun n=>match n with|0=>false|_=>true) (nu l)
def gu(l e:List Nat):Rd c (Option (Nat×Bool)):=fun x d K=>nu l x d fun s x d=>match s with|0=>K none x d|1=>sl e x d fun v=>K (some (v,false))|_=>sl e x d fun v=>K (some (v,true))
def nl(a b e:List Nat):Rd c (List (CV×C)):=m3 (fun k s p=>p.map fun q=>(match k with|false=>.cell s q.1|true=>.tmp s q.1,q.2)) (bo a) (sl b) (ix nT [] e)
def aL(l:List Nat):Rd c AL:=fun x d K=>nu l x d fun s x d=>match Nat.blt s 500 with|true=>K (.val (gt cT s .i) none) x d|false=>K (gt aT (s-500) (.num .i64)) x d
def cu:Rd c Cut:=li t15 (m4 (fun b n h a=>(b,n,h,a)) (bo t29) (cN t25) (ix hT .one t47) (li t50 (aL t16)))
variable{R:List GF}
def cl(d:Nat)(g:Option GF)(l:List YO):YOp R:=match g with
 |none=>.bad none|some g=>match h:fX g.ps with| []=>.call d g [] (by rw[h];rfl) l|_::_=>.bad none
section
variable(G:List GF)(X:List (YOp R))
def oq:Nat->Rd c (YOp R)|0=>m2 .mv (dD t36) (od t25 fun _ s=>s)|1=>m2 .as (dA t33) (od t3)|2=>m4 .pick (dD t36) (od t24) (od t21) (od t22)|3=>m2 .alloc (dA t33) (ix zT [] t46)|4=>m2 .box (dD t40) (od t40)|5=>m3 .build (dD t36) (ix zT [] t46) (li t46 (m3 (fun a b e=>(a,b,e)) (nu t46) (nu t50) (od t24)))|6=>m4 .B7 (dD t36) (nu t41) (ix cT .i t27) (li t41 (m2 .mk (nu t23) (od t36)))|7=>m3 .ld (dD t36) (on t5) (od t36)|8=>m3 .st (nu t11) (od t12) (od t13)|9=>m2 .chk (dD t39) (od t36)|10=>m4 (fun d b x y=>.bin d b.1 b.2 x y) (dD t36) (ix bT (.num,.add) t7) (od t40) (od t35)|11=>m3 .un (dD t39) (ix UT .not t47) (od t39)|12=>m3 .cvI (dD t36) (ix kT .i64 t43) (od t39)|13=>m3 .fa (dD t36) (nu t46) (od t37 fun _ s=>s)|14=>m4 .ia (dD t39) (ix cT .i t27) (od t40) (od t35)|15=>m3 .ext (dD t36) (od t24) (nu t43)|16=>m3 cl (dD t36) (ix (G.map some) none t23) (li t45 (od t49))|17=>m2 .len (dD t39) (od t39)|18=>m2 .lens (dD t39) (od t39)|19=>m5 .app (dD t36) (ix cT .i t27) (bo t48) (od t24) (od t39)|20=>m5 .sub (dD t39) (ix cT .i t27) (od t40) (oo t49) (oo t49)|21=>m1 .Zk (nl t44 t31 t25)|22=>m2 .Ru (dD t39) (od t39)|23=>m4 .dk (dD t36) (od t49) (oo t49) (oo t49)|_=>ix X (.bad none) t46
def oP(l:List Nat):Rd c (Nat×YOp R):=fun x d K=>nu l x d fun h x d=>oq G X h x d fun o=>K (h,o)
def oL:Nat->List Nat->Rd c (List (Option (Nat×Bool)×YOp R))|0,_=>fun x d K=>K [] x d|n+1,l=>fun x d K=>gu t38 t20 x d fun g x d=>oP G X l x d fun o x d=>oL n (gt pT o.1 t2) x d fun r=>K ((g,o.2)::r)
def rn:Nat->Nat->Rd c (B2 R)
 |0,_=>fun x d K=>K .nil x d|f+1,j=>fun x d K=>nu t48 x d fun h x d=>(match h with
  |0=>fun x d K=>K .nil x d|1=>fun x d K=>nu t18 x d fun i x d=>Df (j+i-32) fun i=>m4 (fun g s o r=>.op i g s o.2 r) (gu t38 t24) (ke t19 t33) (oP G X t26) (rn f (i+1)) x d K|2=>m2 .dr (ke t26 t50) (rn f j)|3=>m2 .nl (nl t44 t31 t25) (rn f j)|_=>m3 .both (nu t47) (rn f j) (rn f j):Rd c (B2 R)) x d K
def cd:Nat->List Nat->Rd c (G7 R)
 |0,_=>fun x d K=>K .dead x d|f+1,l=>fun x d K=>nu l x d fun h x d=>(match h with
  |0=>fun x d K=>K .skip x d|1=>m2 .region (fun x d K=>nu t37 x d fun n x d=>oL G X n t1 x d K) (kk t29 [[t42,t48],[t44,t42],[t47,t44]])|2=>m2 .RD (rn G X 900 0) (kk t29 [[t42,t48],[t44,t42],[t47,t44]])|3=>m2 .seq (cd f t0) (cd f t34)|4=>m3 .join cu (cd f t45) (cd f t34)|5=>fun x z K=>sl t31 x z fun n x z=>(kk t47 [[t47,t47],[t44,t42],[t0,t0]]) x z fun t x y=>(kk t47 [[t47,t47],[t44,t42],[t0,t0]]) x z fun e x z=>cd f t8 x y fun a x y=>Df (z / 1024*1024+y % 1024) fun z=>cd f t9 x z fun b x z=>
   Df ((y / 1024 |||z / 1024)*1024+z % 1024) fun z=>K (.cond n t e a b) x z
  |6=>m2 .block (nu t23) (cd f t17)|7=>m2 .loop cu (cd f t30)|8=>m1 .exit (nu t23)|9=>fun x d K=>K .ret x d|10=>m1 .scope (cd f t17)|11=>m2 .or (cd f t17) (cd f t17)|12=>fun x d K=>K .dead x d|_=>m2 .AeO cu (cd f t30):Rd c (G7 R)) x d K
end
end
end
end Y
noncomputable section
open Y
def dY{R:List GF}(n:Nat)(G:List GF)(X:List (YOp R):=[]):G7 R:=cd G X 300 t30 n 0 fun a _ _=>a
def gZ(ps:List PK)(rk:RK)(rs:List G6)(n:Nat)(G:List GF)(d:A ps->Option (Tu (rk.cs++NA ps)))(X:List (YOp []):=[])
 (hd:∀a,(YF.mk [] ps [] rk rs (dY n G X)).run a=d a:=by intro a;kernel_rfl) (hp:AME ps=true:=by rfl)
 (hf:([]:List Nat).map (fun n=>(([]:List GF)[n]?).map GF.x)=(fX ps).map some:=by rfl):GF:=YF.gf ⟨[],ps,[],rk,rs,dY n G X⟩ hp hf d hd
def nU:List PK:=[.v (.st 9),.v .i]
def Cm:RK:=.ret [.i]
def Bz:List G6:=[.tmp 4]
def Wb:List PK:=[.v (.st 10),.v .i]
def ALa:List PK:=[.v (.st 9)]
def Awr:RK:=.ret [(.st 9)]
def Ayt:List G6:=[.cell 2 (some 2)]
def IE:List PK:=[.v (.st 10)]
def Sz:RK:=.ret [.b]
def Arq:List G6:=[.tmp 6]
def AEY:List PK:=[.v (.st 1)]
def b9:List G6:=[.tmp 2]
def Aic:List PK:=[.v (.st 1),.v (.st 2),.v .i]
def Aqu:List PK:=[.v (.st 8)]
def Qa:List PK:=[.v (.l .i),.v .i]
def AvR:List PK:=[.v (.st 4),.v (.st 4)]
def Ak7:List PK:=[.v (.l (.st 4)),.v .i]
def AvS:List PK:=[.v (.l (.st 4))]
def AsD:List PK:=[.v (.st 6)]
def AOP:RK:=.ret [(.l (.st 5))]
def Awz:List PK:=[.v (.st 5),.v (.st 5)]
def xY:List PK:=[.v (.st 7)]
def AvT:List PK:=[.v .i,.v .i]
def AvU:RK:=.ret [(.l (.st 4))]
def AOC:List PK:=[.v (.l (.st 4)),.v (.st 4)]
def Aw0:List PK:=[.v (.l (.st 4)),.v (.l (.st 4))]
def dL:List PK:=[.v (.l (.st 5)),.v (.st 5)]
def Aqi:List PK:=[.v (.l (.st 2)),.v .i]
def Aw1:List PK:=[.v (.l (.st 5)),.v (.l (.st 5))]
def xZ:List PK:=[.v (.st 1),.v (.st 7),.v (.l (.st 2)),.v .i,.v .i]
def AsE:List PK:=[.v .i]
def Aw2:List PK:=[.v (.l .i),.v (.l .i)]
def Am1:RK:=.ret [(.l .i)]
def Alo:List PK:=[.v (.l .i)]
def Am2:RK:=.ret [.s]
def lQ:List PK:=[.v (.st 8),.v .i]
def Vd:RK:=.ret [(.st 8)]
def KM:List PK:=[.v .s]
def dN:RK:=.ret [(.l (.st 15))]
def AiX:List PK:=[.v (.st 6),.v (.st 5)]
def AsG:RK:=.ret [(.st 6),.b]
def AvV:List G6:=[.cell 4 (some 1),.tmp 5]
def Aw3:List G6:=[.cell 2 (some 15),.tmp 3]
def AsH:RK:=.ret [(.st 8),.i,.b]
def AvW:List G6:=[.cell 2 (some 15),.tmp 3,.tmp 4]
def xj:List G6:=[.cell 4 (some 15),.tmp 5,.tmp 6]
def AOD:List PK:=[.v (.st 8),.v (.st 0)]
def Aoi:List PK:=[.v (.st 2),.v .i]
def AjP:List PK:=[.o (.st 8),.v (.st 2)]
def ArF:List G6:=[.cell 4 (some 15)]
def ArE:RK:=.ret [(.st 3),.b]
def AOE:List PK:=[.v (.st 3),.v .i]
def AsI:List G6:=[.cell 4 (some 5),.tmp 5]
def AOF:List PK:=[.v (.st 8),.v .i,.v .i,.v .i,.v .i,.v .i]
def AiY:RK:=.ret [(.st 8),.i]
def Ays:List G6:=[.cell 12 (some 15),.tmp 13]
def Alr:RK:=.ret [(.l (.st 4)),.b]
def Aw4:List G6:=[.tmp 4,.tmp 5]
def Aqd:List G6:=[.cell 4 (some 15),.tmp 5]
def Als:List G6:=[.cell 6 (some 15),.tmp 7]
def Am6:List G6:=[.cell 6 (some 10),.tmp 7]
def AZw:List PK:=[.o (.st 8),.v .i]
def AjT:RK:=.ret [(.st 8),(.l .i)]
def Ayr:RK:=.ret [(.st 8),.i,(.l .i)]
def AOS:RK:=.ret [(.st 8),(.st 12)]
def Ayu:List G6:=[.cell 4 (some 15),.cell 5 (some 2)]
def Qb:List PK:=[.v (.st 8),.v (.l (.st 0))]
def Ve:RK:=.ret [(.st 8),(.l (.st 12))]
def AsF:List PK:=[.b (.st 3),.p .i]
def Aie:RK:=.ret []
def Ayv:List G6:=[.cell 2 (some 23),.tmp 3]
end
end Lv
