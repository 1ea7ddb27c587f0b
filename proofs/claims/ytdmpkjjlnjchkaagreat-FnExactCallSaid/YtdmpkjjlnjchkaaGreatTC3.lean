/- The typed machine is right about the light one. -/
import Derived.Test.YtdmpkjjlnjchkaaGreatTB
set_option linter.unusedVariables false
set_option linter.unusedSimpArgs false
set_option linter.unusedSectionVars false
namespace Lv
namespace Y
open Go (IntKind BinOp UnOp)
noncomputable section
def Rd(c a:Type):Type:=Nat->Nat->(a->Nat->Nat->c)->c
section
variable{c α β γ δ ε ζ:Type}
def gt:List α->Nat->α->α| [],_,a=>a|b::_,0,_=>b|_::l,n+1,a=>gt l n a
def rdE:List Nat->Nat->Nat->(Nat->Nat->c)->c
 | [],_,_,K=>K 0 0|e::l,r,q,K=>match Nat.blt r (e % 1024+1) with|true=>Df ((e % 1024+1)*q+r) fun x=>Df (e / 1024) fun s=>K s x|false=>rdE l (r-(e % 1024+1)) q K
def nu(l:List Nat):Rd c Nat:=fun x d K=>rdE l (x % 1024) (x / 1024) fun s x=>match Nat.beq s 999 with|true=>Df (x % 1024) fun s=>Df (x / 1024) fun x=>K s x d|false=>K s x d
def stp(z v:Nat):Nat:=(z / 1024 |||1 <<< (v+512))*1024+v
def dD(l:List Nat):Rd c Nat:=fun x z K=>nu l x z fun s x z=>Df (z % 1024+s-160) fun v=>Df (stp z v) fun z=>K v x z
def dA(l:List Nat):Rd c Nat:=fun x z K=>nu l x z fun v x z=>Df (stp z v) fun z=>K v x z
def sl(l:List Nat):Rd c Nat:=fun x z K=>nu l x z fun s x z=>Df (z % 1024+160-s) fun v=>K v x z
def m1(f:α->β)(a:Rd c α):Rd c β:=fun x d K=>a x d fun u x d=>K (f u) x d
def m2(f:α->β->γ)(a:Rd c α)(b:Rd c β):Rd c γ:=fun x d K=>a x d fun u x d=>b x d fun v x d=>K (f u v) x d
def m3(f:α->β->γ->δ)(a:Rd c α)(b:Rd c β)(e:Rd c γ):Rd c δ:=fun x d K=>a x d fun u x d=>b x d fun v x d=>e x d fun w x d=>K (f u v w) x d
def m4(f:α->β->γ->δ->ε)(a:Rd c α)(b:Rd c β)(e:Rd c γ)(g:Rd c δ):Rd c ε:=fun x d K=>a x d fun u x d=>m3 (f u) b e g x d K
def m5(f:α->β->γ->δ->ε->ζ)(a:Rd c α)(b:Rd c β)(e:Rd c γ)(g:Rd c δ)(h:Rd c ε):Rd c ζ:=fun x d K=>a x d fun u x d=>m4 (f u) b e g h x d K
def rep(m:Rd c α):Nat->Rd c (List α)|0=>fun x d K=>K [] x d|n+1=>m2 .cons m (rep m n)
def li(l:List Nat)(m:Rd c α):Rd c (List α):=fun x d K=>nu l x d fun n x d=>rep m n x d K
def kd(e:List Nat):Nat->Nat->Rd c (List Nat)|0,_=>fun x d K=>K [] x d|n+1,p=>fun x d K=>nu e x d fun s x d=>Df (p+s) fun v=>kd e n v x d fun r=>K (v::r)
def ke(l e:List Nat):Rd c (List Nat):=fun x d K=>nu l x d fun n x d=>kd e n 0 x d K
def kp(t:List (List (List Nat)))(d:Nat):Nat->Nat->Nat->Nat->Nat->Nat->(List Nat->Nat->c)->c
 |0,_,_,_,_,x,K=>K [] x|f+1,i,o,w,p,x,K=>match Nat.beq (o |||w) 0 with
  |true=>K [] x|false=>Df (o / 2) fun o'=>Df (w / 2) fun w'=>Df (i+1) fun j=>match Nat.beq ((o |||w) % 2) 0 with
   |true=>kp t d f j o' w' p x K|false=>rdE (gt (gt t (match Nat.beq i d with|true=>0|false=>1+w % 2) []) p []) (x % 1024) (x / 1024) fun s x=>match s with|0=>kp t d f j o' w' 0 x K|_=>kp t d f j o' w' 1 x fun r=>K (i::r)
def bits:List Nat->Nat->Nat| [],a=>a|i::r,a=>Df (a |||1 <<< i) fun a=>bits r a
def cN(l:List Nat):Rd c Nat:=fun x z K=>nu l x z fun v x z=>Df ((z / 1024 |||1 <<< (v+512))*1024+z % 1024) fun z=>K v x z
def ix(t:List α)(a:α)(l:List Nat):Rd c α:=m1 (fun n=>gt t n a) (nu l)
def t0:List Nat:=[359,1236,13466,7306,4178,10288,6151,14343,3077,1022978]
def t1:List Nat:=[4439,5283,2151,1023048,1095,7234,6200,3117,8218,10255,9231,13327,11273,20485,21509]
def t2:List Nat:=[1023158,526515,409742,524340,525349,527397,156699,157723,162841,150550,159764,158739,144401,155665,154641,160785,147469,143371,148491,152587,161802,151561,149512,544776,153608,145416,135176,146440,141319,139270,137222,132101,122885,142341,410629]
def t3:List Nat:=[1575,181,2157,13362,12334,10276,16418,1022985]
def t4:List Nat:=[670,8420,3160,1046,1022987]
def t5:List Nat:=[1276,3197,13434,105,7244,15435,8252,4156,16417,19488,10264,1022996,2061,24589]
def t6:List Nat:=[7997,8352,13344]
def t7:List Nat:=[610,16493,3131,6190,11308,2078,24605,7194,5146,10262,8204]
def t8:List Nat:=[16626,13520,187,10360,8266,17451,7209,3095,6161,24591,5132,14346,1033,1022985]
def t9:List Nat:=[2538,1349,3259,6154,1022983]
def t10:List Nat:=[11587,1264,129,2142,13395,3133,1023016,8222,10255]
def t11:List Nat:=[504,14533,1095,6198,15409,1023011,3105,4121,10256,11280,21517]
def t12:List Nat:=[7647,3461,1080,4145,2083,1022986]
def t13:List Nat:=[166434,167088,168085,1023029,171028,178196,176145,168977,177169]
def t14:List Nat:=[1328,15562,2206,23682,5211,10300,4129,7190,1022991]
def t15:List Nat:=[164381,1023155,183322,182298,162842,178200,186390,191509,164885,185365,246803,247826,192527,175119,169995,179211,171019]
def t16:List Nat:=[165206,164114,1023131,165990,166955,159766,145423,157711,142349,80907,153610,136202]
def t17:List Nat:=[8776,1394,3139]
def t18:List Nat:=[1878,74,2081,3104,4122]
def t19:List Nat:=[33657,33827,34838,1022989,26634,30726,27654,36870,37893,28677,35845,29701,38916]
def t20:List Nat:=[925,2095,1056,3082,1022981]
def t21:List Nat:=[207,7342,13433,16483,8283,14407,15428,3120,10287,9233,2063,1022988,1035,11272,19463,5126,6149]
def t22:List Nat:=[164064,165087,166105,167057,168023,169016,170017,171019,175113,1022985]
def t23:List Nat:=[165395,527851]
def t24:List Nat:=[526867,165355]
def t25:List Nat:=[10697,9618,7276,12341]
def t26:List Nat:=[269,1146,2131,3140,5178,4151,11316,12337,6192,9253,13346,7197,8218,22547,14354,10254,15373,21516]
def t27:List Nat:=[2337,1245,7292,5237,96,6189,3110,1023000,4116,15377,8204,13321]
def t28:List Nat:=[165406,166025,167037,410665,1023016,409636,168986,167959,169996,471049,528391,524295,171014]
def t29:List Nat:=[5318,8370,163,7319,2194,1088,12350,20517,16400]
def t30:List Nat:=[165070,170126,169065,168037,171100,166975,172083,165939,173096,174111,163868,176149,1022997,177171,175119,179207,178183,525318]
def t31:List Nat:=[1196,135,5239,2128,3151,1023054,6193,4134,7203,8219,9243,10262,13327,18445,20491,11274,409609,16392,17416,26632,19462,14342,12294,15365,96261,22532,24580,21508,35844,23555,31747]
def t32:List Nat:=[286,10518,13398,16459,1089,14400,17463,24603,15382,1022991,8204,7180,5129,19460]
def t33:List Nat:=[22188,1228,8325]
def t34:List Nat:=[386,1386,2147,3132,4143,5138,6162,7177,8200,1022983]
def t35:List Nat:=[3487,9439,5311,4178,1079,6194,1022977]
def t36:List Nat:=[165301,166204,167069,1023029,167965,168971,169991,171014]
def t37:List Nat:=[1241,2262,3263,4199,5192,1023035,6196,8226,7201,9228,14345,10246,12293,15363]
def t38:List Nat:=[928,2098,1067]
def t39:List Nat:=[165887]
def t40:List Nat:=[164856,1022982]
def t41:List Nat:=[934,1112]
def t42:List Nat:=[1018,1028]
def t43:List Nat:=[629,1416,1022976]
def t44:List Nat:=[1836,210]
def t45:List Nat:=[165655,1023046,165915,166930,167946,169993,171015,175110,172038,168966,173061,177157,178180,158724,181252,179204,176131,182275,174083,180227,183299,184322,189442,185346,159746]
def t46:List Nat:=[7394,8286,4187,11338,2119,12357,6213,10295,3123,9264,1071,5162,25,14359,15374,1022985]
def t47:List Nat:=[1935,1023010,21528,91153,31754,20488,13318,6150]
def t48:List Nat:=[1769,3232,6189,2086,4114,5131,1022976]
def t49:List Nat:=[3878,140,1076,2055,4103,1022982]
def t50:List Nat:=[1994,52]
def t51:List Nat:=[1513,2335,164,3152]
def t52:List Nat:=[165307,410900,409720,1023040,165921,411671,716815,418825,534536,412679,415751,417799]
def uT:List (U):=[.int .i64 (-1),.nil,.bool false,.bool true,.int .i64 1000000,.int .i64 999,.int .i64 1000008,.int .i64 1000001,.int .i64 20000,.int .i64 9999,.int .u64 1,.int .u64 4294967296,.int .u64 32,.int .u64 65536,.int .u64 16,.int .u64 256,.int .u64 8,.int .i64 2147483647,.int .i64 127,.int .i64 128,.str [],.int .i64 4294967295,.int .i64 3988292384,.int .u64 24,.int .i64 1048576]
def hT:List (Sh):=[.one]
def cT:List (C):=[.i,.l (.st 5),.st 7,.l .i,.l (.st 2),.st 2,.l (.st 4),.st 4,.st 5,.l (.l (.st 5)),.l (.st 7),.l (.st 0),.st 0,.st 6,.b,.st 8,.st 12,.l (.st 12),.st 9,.m,.u,.l .u]
def nT:List (List (Nat×C)):=[[(0,.i)],[(0,.st 2)],[(0,.st 4)],[(0,.st 5)],[(0,.l (.st 5))],[(5,.st 4),(6,.l (.st 5))],[(0,.st 7)],[(0,.i),(11,.st 2),(12,.st 7),(13,.i),(14,.i)],[(0,.st 0)],[(0,.i),(11,.st 2),(12,.st 7),(13,.i),(14,.i),(22,.st 0)],[(1,.i)],[(0,.st 12)],[(12,.st 7)],[(22,.st 0)],[(0,.u)]]
def zT:List (List U):=[[.nil,.int .i64 0,.int .i64 0,.int .i64 0,.int .i64 0,.int .i64 0,.int .i64 0,.int .i64 0,.int .i64 0],[.int .i64 0,.int .i64 0,.int .i64 0,.int .i64 0,.int .i64 0,.int .i64 0,.int .i64 0,.int .i64 0,.int .i64 0,.int .i64 0],[.int .i64 0,.int .i64 0,.int .i64 0,.int .i64 0,.int .i64 0],[.int .i64 0,.int .i64 0,.int .i64 0,.int .i64 0],[.int .i64 0,.int .i64 0],[.nil],[.int .i64 0,.int .i64 0,.int .i64 0,.int .i64 0,.int .i64 0,.nil,.nil],[.nil,.int .i64 0,.int .i64 0,.int .i64 0,.int .i64 0,.int .i64 0,.int .i64 0,.int .i64 0,.int .i64 0,.int .i64 0,.int .i64 0,.nil,.nil,.nil,.nil],[.str [],.int .i64 0],[.str [],.int .i64 0,.str [],.int .i64 0,.str [],.int .i64 0],[.int .i64 0,.int .i64 0,.int .i64 0,.int .i64 0,.int .i64 0,.int .i64 0],[.nil,.int .i64 0,.int .i64 0,.int .i64 0,.int .i64 0,.int .i64 0,.int .i64 0,.int .i64 0,.int .i64 0,.int .i64 0,.int .i64 0,.nil,.nil,.nil,.nil,.str [],.int .i64 0,.str [],.int .i64 0,.str [],.int .i64 0,.int .i64 0,.nil],[.int .i64 0,.nil]]
def bT:List (Cls×BinOp):=[(.num,.sub),(.num,.lss),(.num,.add),(.num,.geq),(.num,.leq),(.num,.eql),(.num,.gtr),(.num,.neq),(.num,.rem),(.num,.quo),(.agg [.i,.i,.i,.i],.neq),(.agg [.i,.i],.neq),(.agg [.i,.i,.i,.i,.i,.i],.eql),(.num,.mul),(.agg [.i,.i],.eql),(.num,.shr),(.num,.xor),(.num,.and)]
def UT:List (UnOp):=[.not]
def kT:List (IntKind):=[.u64,.i64,.u8]
def aT:List (AL):=[.num .u64]
def pT:List (List Nat):=[t32,t33,t5,t33,t5,t5,t5,t8,t47,t5,t3,t51,t5,t6,t5,t5,t10,t32,t5,t5,t5,t17,t5,t5]
def kk(g:List Nat)(t:List (List (List Nat))):Rd c (List Nat):=fun x z K=>nu g x z fun s x z=>match s with|0=>kp t (z % 1024) 512 0 (z / 1024 % 2 ^ 512) (z / 1024 / 2 ^ 512) 1 x fun r x=>Df (bits r 0*1024+z % 1024) fun z=>K r x z|_=>ke t37 t34 x z fun r x z=>Df (bits r 0*1024+z % 1024) fun z=>K r x z
def od(l:List Nat)(q:Nat->Nat->Nat:=fun z s=>z % 1024+160-s):Rd c YO:=fun x d K=>nu l x d fun s x d=>match Nat.blt s 400 with
 |true=>Df (q d s) fun v=>K (.tmp v) x d|false=>match Nat.blt s 512 with|true=>Df (s-400) fun v=>K (.k (.int .i64 (Int.ofNat v))) x d|false=>K (.k (gt uT (s-512) .nil)) x d
def oo(l:List Nat):Rd c (Option YO):=fun x d K=>nu l x d fun s x d=>match Nat.blt s 400 with
 |true=>Df (d % 1024+160-s) fun v=>K (some (.tmp v)) x d|false=>match Nat.blt s 512 with
  |true=>Df (s-400) fun v=>K (some (.k (.int .i64 (Int.ofNat v)))) x d|false=>match Nat.blt s 700 with|true=>K (some (.k (gt uT (s-512) .nil))) x d|false=>K none x d
def on(l:List Nat):Rd c (Option Nat):=m1 (fun n=>match n with|0=>none|n+1=>some n) (nu l)
def bo(l:List Nat):Rd c Bool:=m1 (fun n=>match n with|0=>false|_=>true) (nu l)
def gu(l e:List Nat):Rd c (Option (Nat×Bool)):=fun x d K=>nu l x d fun s x d=>match s with|0=>K none x d|1=>sl e x d fun v=>K (some (v,false))|_=>sl e x d fun v=>K (some (v,true))
def nl(a b e:List Nat):Rd c (List (CV×C)):=m3 (fun k s p=>p.map fun q=>(match k with|false=>.cell s q.1|true=>.tmp s q.1,q.2)) (bo a) (sl b) (ix nT [] e)
def aL(l:List Nat):Rd c AL:=fun x d K=>nu l x d fun s x d=>match Nat.blt s 500 with|true=>K (.val (gt cT s .i) none) x d|false=>K (gt aT (s-500) (.num .i64)) x d
def cu:Rd c Cut:=li t51 (m4 (fun b n h a=>(b,n,h,a)) (bo t41) (cN t31) (ix hT .one t42) (li t50 (aL t11)))
variable{R:List GF}
def cl(d:Nat)(g:Option GF)(l:List YO):YOp R:=match g with
 |none=>.bad none|some g=>match h:fX g.ps with| []=>.call d g [] (by rw[h];rfl) l|_::_=>.bad none
section
variable(G:List GF)(X:List (YOp R))
def oq:Nat->Rd c (YOp R)|0=>m2 .mv (dD t45) (od t31 fun _ s=>s)|1=>m2 .as (dA t1) (od t2)|2=>m4 .pick (dD t45) (od t30) (od t23) (od t24)|3=>m2 .alloc (dA t46) (ix zT [] t46)|4=>m2 .box (dD t36) (od t36)|5=>m3 .build (dD t45) (ix zT [] t46) (li t27 (m3 (fun a b e=>(a,b,e)) (nu t26) (nu t47) (od t30)))|6=>m4 .B7 (dD t45) (nu t34) (ix cT .i t29) (li t34 (m2 .mk (nu t34) (od t45)))|7=>m3 .ld (dD t45) (on t7) (od t45)|8=>m3 .st (nu t14) (od t15) (od t16)|9=>m2 .chk (dD t39) (od t30)|10=>m4 (fun d b x y=>.bin d b.1 b.2 x y) (dD t45) (ix bT (.num,.add) t27) (od t36) (od t52)|11=>m3 .un (dD t39) (ix UT .not t42) (od t39)|12=>m3 .cvI (dD t45) (ix kT .i64 t51) (od t39)|13=>m3 .fa (dD t45) (nu t26) (od t37 fun _ s=>s)|14=>m4 .ia (dD t39) (ix cT .i t29) (od t13) (od t45)|15=>m3 .ext (dD t30) (od t30) (nu t43)|16=>m3 cl (dD t45) (ix (G.map some) none t34) (li t9 (od t28))|17=>m2 .len (dD t39) (od t39)|18=>m2 .lens (dD t39) (od t39)|19=>m5 .app (dD t28) (ix cT .i t29) (bo t50) (od t30) (od t39)|20=>m5 .sub (dD t39) (ix cT .i t29) (od t36) (oo t52) (oo t52)|21=>m1 .Zk (nl t43 t40 t46)|22=>m2 .Ru (dD t39) (od t39)|23=>m4 .dk (dD t0) (od t0) (oo t0) (oo t0)|_=>ix X (.bad none) t34
def oP(l:List Nat):Rd c (Nat×YOp R):=fun x d K=>nu l x d fun h x d=>oq G X h x d fun o=>K (h,o)
def oL:Nat->List Nat->Rd c (List (Option (Nat×Bool)×YOp R))|0,_=>fun x d K=>K [] x d|n+1,l=>fun x d K=>gu t38 t22 x d fun g x d=>oP G X l x d fun o x d=>oL n (gt pT o.1 t5) x d fun r=>K ((g,o.2)::r)
def rn:Nat->Nat->Rd c (B2 R)
 |0,_=>fun x d K=>K .nil x d|f+1,j=>fun x d K=>nu t18 x d fun h x d=>(match h with
  |0=>fun x d K=>K .nil x d|1=>fun x d K=>nu t19 x d fun i x d=>Df (j+i-32) fun i=>m4 (fun g s o r=>.op i g s o.2 r) (gu t38 t30) (ke t20 t31) (oP G X t21) (rn f (i+1)) x d K|2=>m2 .dr (ke t46 t47) (rn f j)|3=>m2 .nl (nl t41 t40 t25) (rn f j)|_=>m3 .both (nu t42) (rn f j) (rn f j):Rd c (B2 R)) x d K
def cd:Nat->List Nat->Rd c (G7 R)
 |0,_=>fun x d K=>K .dead x d|f+1,l=>fun x d K=>nu l x d fun h x d=>(match h with
  |0=>fun x d K=>K .skip x d|1=>m2 .region (fun x d K=>nu t37 x d fun n x d=>oL G X n t0 x d K) (kk t41 [[t44,t50],[t43,t44],[t42,t43]])|2=>m2 .RD (rn G X 900 0) (kk t41 [[t44,t50],[t43,t44],[t42,t43]])|3=>m2 .seq (cd f t48) (cd f t35)|4=>m3 .join cu (cd f t48) (cd f t35)|5=>fun x z K=>sl t40 x z fun n x z=>(kk t42 [[t42,t41],[t41,t44],[t0,t0]]) x z fun t x y=>(kk t42 [[t42,t42],[t43,t44],[t0,t0]]) x z fun e x z=>cd f t49 x y fun a x y=>Df (z / 1024*1024+y % 1024) fun z=>cd f t4 x z fun b x z=>
   Df ((y / 1024 |||z / 1024)*1024+z % 1024) fun z=>K (.cond n t e a b) x z
  |6=>m2 .block (nu t34) (cd f t12)|7=>m2 .loop cu (cd f t49)|8=>m1 .exit (nu t34)|9=>fun x d K=>K .ret x d|10=>m1 .scope (cd f t12)|11=>m2 .or (cd f t12) (cd f t12)|12=>fun x d K=>K .dead x d|_=>m2 .AeO cu (cd f t49):Rd c (G7 R)) x d K
end
end
end
end Y
noncomputable section
open Y
def dY{R:List GF}(n:Nat)(G:List GF)(X:List (YOp R):=[]):G7 R:=cd G X 300 t49 n 0 fun a _ _=>a
def gZ(ps:List PK)(rk:RK)(rs:List G6)(n:Nat)(G:List GF)(d:A ps->Option (Tu (rk.cs++NA ps)))(X:List (YOp []):=[])
 (hd:∀a,(YF.mk [] ps [] rk rs (dY n G X)).run a=d a:=by intro a;kernel_rfl) (hp:AME ps=true:=by rfl)
 (hf:([]:List Nat).map (fun n=>(([]:List GF)[n]?).map GF.x)=(fX ps).map some:=by rfl):GF:=YF.gf ⟨[],ps,[],rk,rs,dY n G X⟩ hp hf d hd
def nU:List PK:=[.v (.l .i),.v .i]
def Cm:RK:=.ret [.i]
def Bz:List G6:=[.tmp 4]
def Wb:List PK:=[.v (.l (.st 2)),.v .i]
def ALa:List PK:=[.v (.l (.st 4)),.v .i]
def Ae8:List PK:=[.v (.l (.l (.st 5))),.v .i]
def AZv:List PK:=[.v (.st 6),.v .i]
def IE:List PK:=[.v (.st 8),.v .i]
def ACR:List PK:=[.v (.l .i)]
def A4O:RK:=.ret [(.l .i)]
def b0:List G6:=[.tmp 2]
def dK:List PK:=[.v (.st 1)]
def Qc:RK:=.ret [(.st 1)]
def CO:List G6:=[.cell 2 (some 9)]
def A5B:RK:=.ret [(.l (.st 2))]
def AvR:List PK:=[.v (.l (.st 4))]
def A3j:RK:=.ret [(.l (.st 4))]
def A4Y:List G6:=[.cell 2 (some 2)]
def AOO:RK:=.ret [(.l (.st 5))]
def Amw:List PK:=[.v (.st 6)]
def Aid:RK:=.ret [(.st 6)]
def A5E:List G6:=[.cell 2 (some 1)]
def AvT:List PK:=[.v (.st 7)]
def AvU:RK:=.ret [(.st 7)]
def A5F:List G6:=[.cell 2 (some 7)]
def Aw0:List PK:=[.v (.st 8)]
def A1A:RK:=.ret [(.st 8)]
def Aqi:List PK:=[.v (.st 9)]
def mz:RK:=.ret [(.st 9)]
def xZ:List PK:=[.v (.st 0)]
def AsE:List PK:=[.v (.st 11)]
def A5C:RK:=.ret [(.st 11)]
def A5G:List G6:=[.cell 2 (some 23)]
def Ob:RK:=.ret [.b]
def AEj:List G6:=[.tmp 6]
def lQ:List PK:=[.v (.st 1),.v (.st 2),.v .i]
def Amx:List PK:=[.v (.st 4),.v (.st 4)]
def KM:List PK:=[.v (.st 5),.v (.st 5)]
def A6f:List PK:=[.v (.l (.st 4)),.v (.st 4)]
def AiX:List PK:=[.v (.l (.st 4)),.v (.l (.st 4))]
def AEb:List PK:=[.v (.l (.st 5)),.v (.st 5)]
def Amy:List PK:=[.v (.l (.st 5)),.v (.l (.st 5))]
def Alp:List PK:=[.v (.st 1),.v (.st 7),.v (.l (.st 2)),.v .i,.v .i]
def Oa:List PK:=[.v .i]
def xd:RK:=.ret [.s]
def Aoh:List PK:=[.v (.st 11),.v (.st 0)]
def A6i:List G6:=[.cell 4 (some 23),.tmp 5]
def Aoi:List PK:=[.v (.st 6),.v (.st 5)]
def A4X:RK:=.ret [(.st 6),.b]
def ArF:List G6:=[.cell 4 (some 1),.tmp 5]
def AEc:List PK:=[.v (.st 8),.v (.st 0)]
def AOE:List PK:=[.v (.st 2),.v .i]
def AEd:List PK:=[.o (.st 8),.v (.st 2)]
def A1p:List G6:=[.cell 4 (some 15)]
def AiY:RK:=.ret [(.st 3),.b]
def AZt:List PK:=[.v (.st 3),.v .i]
def A2m:List G6:=[.cell 4 (some 5),.tmp 5]
def AZu:List PK:=[.v (.st 8),.v .i,.v .i,.v .i,.v .i,.v .i]
def AjS:RK:=.ret [(.st 8),.i]
def Als:List G6:=[.cell 12 (some 15),.tmp 13]
def A5D:RK:=.ret [(.l (.st 4)),.b]
def Alu:List G6:=[.tmp 4,.tmp 5]
def A0x:List G6:=[.cell 4 (some 15),.tmp 5]
def Alv:List G6:=[.cell 6 (some 15),.tmp 7]
def Alw:List G6:=[.cell 6 (some 10),.tmp 7]
def Ayu:List G6:=[.cell 2 (some 15),.tmp 3]
def Qb:List PK:=[.o (.st 8),.v .i]
def Ve:RK:=.ret [(.st 8),(.l .i)]
def AOT:RK:=.ret [(.st 8),.i,(.l .i)]
def xk:List G6:=[.cell 4 (some 15),.tmp 5,.tmp 6]
def lU:RK:=.ret [(.st 8),(.st 12)]
def lZ:List G6:=[.cell 4 (some 15),.cell 5 (some 2)]
def Aoj:List PK:=[.v (.st 8),.v (.l (.st 0))]
def eo:RK:=.ret [(.st 8),(.l (.st 12))]
def A6g:RK:=.ret [(.st 11),(.l (.st 12))]
def AEk:List G6:=[.cell 2 (some 23),.tmp 3]
def ZH:List PK:=[.b (.st 3),.p .i]
def AEh:RK:=.ret []
def A6h:RK:=.ret [(.st 11),(.st 12)]
def Aoq:List G6:=[.cell 4 (some 23),.cell 5 (some 2)]
end
end Lv
