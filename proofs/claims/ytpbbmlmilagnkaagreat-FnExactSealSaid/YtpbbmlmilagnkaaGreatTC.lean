/-
  The bodies of the typed texts as numbers, and what reads them (a number is taken apart as by a coder of ranges: each symbol takes as much of it as its table says).
-/
import Derived.Test.YtpbbmlmilagnkaaGreatTB
set_option linter.unusedVariables false
set_option linter.unusedSimpArgs false
set_option linter.unusedSectionVars false
namespace Lv
namespace Y
open Go (IntKind BinOp UnOp)
noncomputable section
def Rd(c a:Type):Type:=Nat->Nat->(a->Nat->Nat->c)->c
section
variable{c α β γ δ ε ζ:Type}
def gt:List α->Nat->α->α| [],_,a=>a|b::_,0,_=>b|_::l,n+1,a=>gt l n a
def rdE:List Nat->Nat->Nat->(Nat->Nat->c)->c
 | [],_,_,K=>K 0 0|e::l,r,q,K=>match Nat.blt r (e % 1024+1) with|true=>D6 ((e % 1024+1)*q+r) fun x=>D6 (e / 1024) fun s=>K s x|false=>rdE l (r-(e % 1024+1)) q K
def nu(l:List Nat):Rd c Nat:=fun x d K=>rdE l (x % 1024) (x / 1024) fun s x=>match Nat.beq s 999 with|true=>D6 (x % 1024) fun s=>D6 (x / 1024) fun x=>K s x d|false=>K s x d
def stp(z v:Nat):Nat:=(z / 1024 |||1 <<< (v+512))*1024+v
def dD(l:List Nat):Rd c Nat:=fun x z K=>nu l x z fun s x z=>D6 (z % 1024+s-160) fun v=>D6 (stp z v) fun z=>K v x z
def dA(l:List Nat):Rd c Nat:=fun x z K=>nu l x z fun v x z=>D6 (stp z v) fun z=>K v x z
def sl(l:List Nat):Rd c Nat:=fun x z K=>nu l x z fun s x z=>D6 (z % 1024+160-s) fun v=>K v x z
def m1(f:α->β)(a:Rd c α):Rd c β:=fun x d K=>a x d fun u x d=>K (f u) x d
def m2(f:α->β->γ)(a:Rd c α)(b:Rd c β):Rd c γ:=fun x d K=>a x d fun u x d=>b x d fun v x d=>K (f u v) x d
def m3(f:α->β->γ->δ)(a:Rd c α)(b:Rd c β)(e:Rd c γ):Rd c δ:=fun x d K=>a x d fun u x d=>b x d fun v x d=>e x d fun w x d=>K (f u v w) x d
def m4(f:α->β->γ->δ->ε)(a:Rd c α)(b:Rd c β)(e:Rd c γ)(g:Rd c δ):Rd c ε:=fun x d K=>a x d fun u x d=>m3 (f u) b e g x d K
def m5(f:α->β->γ->δ->ε->ζ)(a:Rd c α)(b:Rd c β)(e:Rd c γ)(g:Rd c δ)(h:Rd c ε):Rd c ζ:=fun x d K=>a x d fun u x d=>m4 (f u) b e g h x d K
def rep(m:Rd c α):Nat->Rd c (List α)|0=>fun x d K=>K [] x d|n+1=>m2 .cons m (rep m n)
def li(l:List Nat)(m:Rd c α):Rd c (List α):=fun x d K=>nu l x d fun n x d=>rep m n x d K
def kd(e:List Nat):Nat->Nat->Rd c (List Nat)|0,_=>fun x d K=>K [] x d|n+1,p=>fun x d K=>nu e x d fun s x d=>D6 (p+s) fun v=>kd e n v x d fun r=>K (v::r)
def ke(l e:List Nat):Rd c (List Nat):=fun x d K=>nu l x d fun n x d=>kd e n 0 x d K
def kp(t:List (List (List Nat)))(d:Nat):Nat->Nat->Nat->Nat->Nat->Nat->(List Nat->Nat->c)->c
 |0,_,_,_,_,x,K=>K [] x|f+1,i,o,w,p,x,K=>match Nat.beq (o |||w) 0 with
  |true=>K [] x|false=>D6 (o / 2) fun o'=>D6 (w / 2) fun w'=>D6 (i+1) fun j=>match Nat.beq ((o |||w) % 2) 0 with
   |true=>kp t d f j o' w' p x K|false=>rdE (gt (gt t (match Nat.beq i d with|true=>0|false=>1+w % 2) []) p []) (x % 1024) (x / 1024) fun s x=>match s with|0=>kp t d f j o' w' 0 x K|_=>kp t d f j o' w' 1 x fun r=>K (i::r)
def bits:List Nat->Nat->Nat| [],a=>a|i::r,a=>D6 (a |||1 <<< i) fun a=>bits r a
def cN(l:List Nat):Rd c Nat:=fun x z K=>nu l x z fun v x z=>D6 ((z / 1024 |||1 <<< (v+512))*1024+z % 1024) fun z=>K v x z
def ix(t:List α)(a:α)(l:List Nat):Rd c α:=m1 (fun n=>gt t n a) (nu l)
def t0:List Nat:=[354,1247,13465,7298,4178,10286,3081,14342,6150,5124,1022976]
def t1:List Nat:=[4455,5275,2151,1098,1023044,7231,6204,3118,8215,10257,9231,13323,11275,20485]
def t2:List Nat:=[526544,1023145,409742,524343,527406,525346,156698,157722,150550,162836,158739,144403,159763,154641,160782,155661,152589,151563,143370,153610,147466,161801,148488,146440,139272,141319,135175,149511,145414,122886,136198,142341,410629,137221]
def t3:List Nat:=[1552,189,2204,13350,16418,10272,12318,1022985]
def t4:List Nat:=[679,8429,3145,1043,1022987]
def t5:List Nat:=[1268,125,3196,13434,15439,7244,4159,8253,19482,16407,10260,2062,24588,21514,1022986]
def t6:List Nat:=[1244,3289,2245,1023108,4174,8238,6184,7194,14357,5132,15368,9224,23558]
def t7:List Nat:=[8003,8342,13348]
def t8:List Nat:=[620,16493,3122,6193,11307,2083,10267,5145,8210,24593,7184,1022979]
def t9:List Nat:=[16634,13536,176,10368,8256,17454,7204,3096,24593,6156,14345,5129,1032,1022983]
def t10:List Nat:=[165391,166040,167030,1023021,410667,409638,168989,167963,471049,169993,524296,528391]
def t11:List Nat:=[11569,1250,144,2164,13399,3128,8220,1023000,10255,14349]
def t12:List Nat:=[494,14541,1093,15421,6196,3103,1023007,4120,10256,11280,17422]
def t13:List Nat:=[7653,3450,1087,4146,2081,1022985]
def t14:List Nat:=[1398,15615,5242,10310,2115,7209,4135,23578,1022997]
def t15:List Nat:=[164464,1023194,178206,183324,182298,175125,169998,171022,162830,179212,174092]
def t16:List Nat:=[165220,164100,1023129,166002,166962,159767,145425,157713,158732,153612]
def t17:List Nat:=[8790,1380,3139]
def t18:List Nat:=[33712,33817,1022995,34826,35847,28678,29702]
def t19:List Nat:=[955,1054,2067,3081,1022982]
def t20:List Nat:=[165464,527782]
def t21:List Nat:=[526936,165286]
def t22:List Nat:=[1231,2239,3245,4225,5221,6204,7211,8227,10258,1022993,9231,12298,11268,14339,13315]
def t23:List Nat:=[2272,7376,1219,5234,81,3112,6183,4124,11278,12301,9227,10250,13321,8200,15368,1022982]
def t24:List Nat:=[1193,143,5249,1023063,2114,3134,6196,4141,7203,9246,8220,10265,18445,13325,11276,20491,17418,409610,16392,14343,19463,24581,12293,15365,23556,22532,21508,26627,31747]
def t25:List Nat:=[2549,1289,3265,4119,6160,5132,1022983]
def t26:List Nat:=[164044,165070,166093,167075,168047,169009,170013,171020,175113,1022985,525320,172039]
def t27:List Nat:=[5325,8372,2211,157,7318,1092,12342,16423]
def t28:List Nat:=[165069,170102,168046,169064,171086,166977,172091,165947,173101,163876,1023002,174105,176152,177175,175116,179209,178185]
def t29:List Nat:=[226,7389,13453,14426,16460,10296,8244,15386,9239,2067,3088,11276,1036,1022985,19464,5128,6150,17413]
def t30:List Nat:=[3482,9440,5310,4181,1081,6194,1022977]
def t31:List Nat:=[22188,1217,8336]
def t32:List Nat:=[394,1384,2157,3126,4129,6165,5138,8202,7177,1022982]
def t33:List Nat:=[1941,1023006,20495,13324,6156,21514,15370,9226]
def t34:List Nat:=[268,1138,2124,3137,5177,12342,11316,6194,4146,9252,7204,13345,8220,14359,10260,22543,15369,21511,1022982,23557]
def t35:List Nat:=[931,1115]
def t36:List Nat:=[909,2114,1070]
def t37:List Nat:=[164856,1022982]
def t38:List Nat:=[165881,165893]
def t39:List Nat:=[290,10504,13414,16455,1090,14400,17471,24601,15384,1022988,7179,8203,5128]
def t40:List Nat:=[165668,1023044,165913,166930,167946,169994,175111,171015,172038,168966,177157,173061,178180,179204,174083,181251,176131,182275,183298,185346,184322,189442,180226]
def t41:List Nat:=[630,1415,1022976]
def t42:List Nat:=[1017,1029]
def t43:List Nat:=[1835,211]
def t44:List Nat:=[1766,3236,6190,2086,4112,5131,1022976]
def t45:List Nat:=[165354,410887,409718,1023025,165923,411668,716814,418826,524296,534535]
def t46:List Nat:=[1529,2314,164,3157]
def t47:List Nat:=[3882,142,1070,2055,4103,1022982]
def t48:List Nat:=[166251,165206,167086,167986,1023017,168975,171016,169991,176133,178180,174084]
def t49:List Nat:=[1961,66,2056,4100,3076]
def uT:List (U):=[.int .i64 (-1),.nil,.bool false,.bool true,.int .i64 1000000,.int .i64 999,.int .i64 1000008,.int .i64 1000001,.int .i64 20000,.int .i64 9999,.int .u64 1,.int .u64 4294967296,.int .u64 32,.int .u64 65536,.int .u64 16,.int .u64 256,.int .u64 8,.int .i64 1048576]
def hT:List (Sh):=[.one]
def cT:List (C):=[.i,.l (.st 5),.st 7,.l .i,.l (.st 2),.st 2,.l (.st 4),.st 4,.st 5,.l (.l (.st 5)),.l (.st 7),.l (.st 0),.st 0,.st 6,.b,.st 8,.st 12,.l (.st 12),.st 9,.m]
def nT:List (List (Nat×C)):=[[(0,.i)],[(0,.st 2)],[(0,.st 4)],[(0,.st 5)],[(0,.l (.st 5))],[(5,.st 4),(6,.l (.st 5))],[(0,.st 7)],[(0,.i),(11,.st 2),(12,.st 7),(13,.i),(14,.i)],[(0,.st 0)],[(0,.i),(11,.st 2),(12,.st 7),(13,.i),(14,.i),(22,.st 0)],[(1,.i)],[(0,.st 12)],[(12,.st 7)],[(22,.st 0)],[(5,.st 4)],[(11,.st 2),(12,.st 7),(13,.i),(14,.i)],[(0,.i),(11,.st 2),(12,.st 7),(13,.i),(14,.i),(22,.st 0),(23,.st 0),(24,.st 12)]]
def zT:List (List U):=[[.nil,.int .i64 0,.int .i64 0,.int .i64 0,.int .i64 0,.int .i64 0,.int .i64 0,.int .i64 0,.int .i64 0],[.int .i64 0,.int .i64 0,.int .i64 0,.int .i64 0,.int .i64 0,.int .i64 0,.int .i64 0,.int .i64 0,.int .i64 0,.int .i64 0],[.int .i64 0,.int .i64 0,.int .i64 0,.int .i64 0,.int .i64 0],[.int .i64 0,.int .i64 0,.int .i64 0,.int .i64 0],[.int .i64 0,.int .i64 0],[.nil],[.int .i64 0,.int .i64 0,.int .i64 0,.int .i64 0,.int .i64 0,.nil,.nil],[.nil,.int .i64 0,.int .i64 0,.int .i64 0,.int .i64 0,.int .i64 0,.int .i64 0,.int .i64 0,.int .i64 0,.int .i64 0,.int .i64 0,.nil,.nil,.nil,.nil],[.str [],.int .i64 0],[.str [],.int .i64 0,.str [],.int .i64 0,.str [],.int .i64 0],[.int .i64 0,.int .i64 0,.int .i64 0,.int .i64 0,.int .i64 0,.int .i64 0],[.nil,.int .i64 0,.int .i64 0,.int .i64 0,.int .i64 0,.int .i64 0,.int .i64 0,.int .i64 0,.int .i64 0,.int .i64 0,.int .i64 0,.nil,.nil,.nil,.nil,.str [],.int .i64 0,.str [],.int .i64 0,.str [],.int .i64 0,.int .i64 0,.nil],[.int .i64 0,.nil],[.nil,.int .i64 0,.int .i64 0,.int .i64 0,.int .i64 0,.int .i64 0,.int .i64 0,.int .i64 0,.int .i64 0,.int .i64 0,.int .i64 0,.nil,.nil,.nil,.nil,.str [],.int .i64 0,.str [],.int .i64 0,.str [],.int .i64 0,.int .i64 0,.nil,.nil,.nil,.int .i64 0]]
def bT:List (Cls×BinOp):=[(.num,.sub),(.num,.lss),(.num,.add),(.num,.geq),(.num,.leq),(.num,.eql),(.num,.gtr),(.num,.neq),(.num,.rem),(.num,.quo),(.agg [.i,.i,.i,.i],.neq),(.agg [.i,.i],.neq),(.agg [.i,.i,.i,.i,.i,.i],.eql),(.num,.mul),(.agg [.i,.i],.eql),(.num,.shr),(.agg [.i,.i,.i,.i,.i],.eql),(.agg [.i,.i,.i,.i,.i,.i,.i,.i,.i,.i],.neq),(.bool,.neq)]
def UT:List (UnOp):=[.not]
def kT:List (IntKind):=[.u64,.i64,.u8]
def aT:List (AL):=[.num .u64]
def pT:List (List Nat):=[t39,t31,t5,t31,t5,t5,t5,t9,t33,t5,t3,t46,t5,t7,t5,t5,t11,t39,t5,t5,t5,t17,t5,t5]
def kk(g:List Nat)(t:List (List (List Nat))):Rd c (List Nat):=fun x z K=>nu g x z fun s x z=>match s with|0=>kp t (z % 1024) 512 0 (z / 1024 % 2 ^ 512) (z / 1024 / 2 ^ 512) 1 x fun r x=>D6 (bits r 0*1024+z % 1024) fun z=>K r x z|_=>ke t25 t32 x z fun r x z=>D6 (bits r 0*1024+z % 1024) fun z=>K r x z
def od(l:List Nat)(q:Nat->Nat->Nat:=fun z s=>z % 1024+160-s):Rd c YO:=fun x d K=>nu l x d fun s x d=>match Nat.blt s 400 with
 |true=>D6 (q d s) fun v=>K (.tmp v) x d|false=>match Nat.blt s 512 with|true=>D6 (s-400) fun v=>K (.k (.int .i64 (Int.ofNat v))) x d|false=>K (.k (gt uT (s-512) .nil)) x d
def oo(l:List Nat):Rd c (Option YO):=fun x d K=>nu l x d fun s x d=>match Nat.blt s 400 with
 |true=>D6 (d % 1024+160-s) fun v=>K (some (.tmp v)) x d|false=>match Nat.blt s 512 with
  |true=>D6 (s-400) fun v=>K (some (.k (.int .i64 (Int.ofNat v)))) x d|false=>match Nat.blt s 700 with|true=>K (some (.k (gt uT (s-512) .nil))) x d|false=>K none x d
def on(l:List Nat):Rd c (Option Nat):=m1 (fun n=>match n with|0=>none|n+1=>some n) (nu l)
def bo(l:List Nat):Rd c Bool:=m1 (fun n=>match n with|0=>false|_=>true) (nu l)
def gu(l e:List Nat):Rd c (Option (Nat×Bool)):=fun x d K=>nu l x d fun s x d=>match s with|0=>K none x d|1=>sl e x d fun v=>K (some (v,false))|_=>sl e x d fun v=>K (some (v,true))
def nl(a b e:List Nat):Rd c (List (Bo×C)):=m3 (fun k s p=>p.map fun q=>(match k with|false=>.cell s q.1|true=>.tmp s q.1,q.2)) (bo a) (sl b) (ix nT [] e)
def aL(l:List Nat):Rd c AL:=fun x d K=>nu l x d fun s x d=>match Nat.blt s 500 with|true=>K (.val (gt cT s .i) none) x d|false=>K (gt aT (s-500) (.num .i64)) x d
def cu:Rd c Cut:=li t46 (m4 (fun b n h a=>(b,n,h,a)) (bo t35) (cN t24) (ix hT .one t42) (li t49 (aL t12)))
variable{R:List GF}
def cl(d:Nat)(g:Option GF)(l:List YO):YOp R:=match g with
 |none=>.bad none|some g=>match h:fX g.ps with| []=>.call d g [] (by rw[h];rfl) l|_::_=>.bad none
section
variable(G:List GF)(X:List (YOp R))
def oq:Nat->Rd c (YOp R)|0=>m2 .mv (dD t40) (od t24 fun _ s=>s)|1=>m2 .as (dA t1) (od t2)|2=>m4 .pick (dD t38) (od t28) (od t20) (od t21)|3=>m2 .alloc (dA t22) (ix zT [] t23)|4=>m2 .box (dD t48) (od t48)|5=>m3 .build (dD t40) (ix zT [] t22) (li t32 (m3 (fun a b e=>(a,b,e)) (nu t34) (nu t33) (od t28)))|6=>m4 .Bu (dD t40) (nu t41) (ix cT .i t27) (li t41 (m2 .mk (nu t42) (od t45)))|7=>m3 .ld (dD t40) (on t8) (od t40)|8=>m3 .st (nu t14) (od t15) (od t16)|9=>m2 .chk (dD t38) (od t28)|10=>m4 (fun d b x y=>.bin d b.1 b.2 x y) (dD t40) (ix bT (.num,.add) t23) (od t48) (od t45)|11=>m3 .un (dD t38) (ix UT .not t42) (od t38)|12=>m3 .cvI (dD t38) (ix kT .i64 t32) (od t38)|13=>m3 .fa (dD t40) (nu t34) (od t6 fun _ s=>s)|14=>m4 .ia (dD t38) (ix cT .i t27) (od t48) (od t40)|15=>m3 .ext (dD t28) (od t28) (nu t41)|16=>m3 cl (dD t40) (ix (G.map some) none t32) (li t25 (od t10))|17=>m2 .len (dD t38) (od t38)|18=>m2 .lens (dD t38) (od t38)|19=>m5 .app (dD t40) (ix cT .i t27) (bo t43) (od t26) (od t38)|20=>m5 .sub (dD t38) (ix cT .i t27) (od t48) (oo t45) (oo t45)|21=>m1 .UU (nl t41 t37 t23)|22=>m2 .O3 (dD t0) (od t0)|23=>m4 .SH (dD t0) (od t0) (oo t0) (oo t0)|_=>ix X (.bad none) t32
def oP(l:List Nat):Rd c (Nat×YOp R):=fun x d K=>nu l x d fun h x d=>oq G X h x d fun o=>K (h,o)
def oL:Nat->List Nat->Rd c (List (Option (Nat×Bool)×YOp R))|0,_=>fun x d K=>K [] x d|n+1,l=>fun x d K=>gu t36 t26 x d fun g x d=>oP G X l x d fun o x d=>oL n (gt pT o.1 t5) x d fun r=>K ((g,o.2)::r)
def rn:Nat->Nat->Rd c (BS R)
 |0,_=>fun x d K=>K .nil x d|f+1,j=>fun x d K=>nu t49 x d fun h x d=>(match h with
  |0=>fun x d K=>K .nil x d|1=>fun x d K=>nu t18 x d fun i x d=>D6 (j+i-32) fun i=>m4 (fun g s o r=>.op i g s o.2 r) (gu t36 t28) (ke t19 t24) (oP G X t29) (rn f (i+1)) x d K|2=>m2 .dr (ke t29 t33) (rn f j)|3=>m2 .nl (nl t39 t37 t34) (rn f j)|_=>m3 .both (nu t42) (rn f j) (rn f j):Rd c (BS R)) x d K
def cd:Nat->List Nat->Rd c (FM R)
 |0,_=>fun x d K=>K .dead x d|f+1,l=>fun x d K=>nu l x d fun h x d=>(match h with
  |0=>fun x d K=>K .skip x d|1=>m2 .region (fun x d K=>nu t22 x d fun n x d=>oL G X n t0 x d K) (kk t35 [[t43,t49],[t41,t43],[t42,t41]])|2=>m2 .Vm (rn G X 900 0) (kk t35 [[t43,t49],[t41,t43],[t42,t41]])|3=>m2 .seq (cd f t44) (cd f t30)|4=>m3 .join cu (cd f t44) (cd f t30)|5=>fun x z K=>sl t37 x z fun n x z=>(kk t42 [[t42,t42],[t35,t43],[t0,t0]]) x z fun t x y=>(kk t42 [[t42,t42],[t41,t43],[t0,t0]]) x z fun e x z=>cd f t47 x y fun a x y=>D6 (z / 1024*1024+y % 1024) fun z=>cd f t4 x z fun b x z=>
   D6 ((y / 1024 |||z / 1024)*1024+z % 1024) fun z=>K (.cond n t e a b) x z
  |6=>m2 .block (nu t32) (cd f t13)|7=>m2 .loop cu (cd f t47)|8=>m1 .exit (nu t32)|9=>fun x d K=>K .ret x d|10=>m1 .scope (cd f t13)|11=>m2 .or (cd f t13) (cd f t13)|12=>fun x d K=>K .dead x d|_=>m2 .AQ6 cu (cd f t47):Rd c (FM R)) x d K
end
end
end
end Y
noncomputable section
open Y
def dY{R:List GF}(n:Nat)(G:List GF)(X:List (YOp R):=[]):FM R:=cd G X 300 t47 n 0 fun a _ _=>a
def gZ(ps:List PK)(rk:RK)(rs:List G0)(n:Nat)(G:List GF)(d:A ps->Option (Tu (rk.cs++JG ps)))(X:List (YOp []):=[])
 (hd:∀a,(YF.mk [] ps [] rk rs (dY n G X)).run a=d a:=by intro a;kernel_rfl) (hp:yA ps=true:=by rfl)
 (hf:([]:List Nat).map (fun n=>(([]:List GF)[n]?).map GF.x)=(fX ps).map some:=by rfl):GF:=YF.gf ⟨[],ps,[],rk,rs,dY n G X⟩ hp hf d hd
def dw:List PK:=[.v (.l .i),.v .i]
def CS:RK:=.ret [.i]
def BY:List G0:=[.tmp 4]
def Oi:List PK:=[.v (.l (.st 2)),.v .i]
def xJ:List PK:=[.v (.l (.st 4)),.v .i]
def ARs:List PK:=[.v (.l (.l (.st 5))),.v .i]
def AM0:List PK:=[.v (.st 6),.v .i]
def GM:List PK:=[.v (.st 8),.v .i]
def lE:RK:=.ret [(.l .i)]
def Dm:List G0:=[.tmp 2]
def Rj:List PK:=[.v (.st 1)]
def ABh:RK:=.ret [(.st 1)]
def ABn:List G0:=[.cell 2 (some 9)]
def oV:RK:=.ret [(.l (.st 2))]
def dx:List PK:=[.v (.l (.st 4))]
def eC:RK:=.ret [(.l (.st 4))]
def eD:List G0:=[.cell 2 (some 2)]
def Rm:RK:=.ret [(.l (.st 5))]
def Rk:List PK:=[.v (.st 6)]
def ABi:RK:=.ret [(.st 6)]
def ABo:List G0:=[.cell 2 (some 1)]
def dy:List PK:=[.v (.st 7)]
def ABj:RK:=.ret [(.st 7)]
def ABp:List G0:=[.cell 2 (some 7)]
def PR:List PK:=[.v (.st 8)]
def Ly:RK:=.ret [(.st 8)]
def eA:List PK:=[.v (.st 9)]
def ABk:RK:=.ret [(.st 9)]
def PS:List PK:=[.v (.st 11)]
def ABl:RK:=.ret [(.st 11)]
def ABq:List G0:=[.cell 2 (some 23)]
def Bc:RK:=.ret [.b]
def N0:List G0:=[.tmp 6]
def PT:List PK:=[.v (.st 1),.v (.st 2),.v .i]
def oR:List PK:=[.v (.st 4),.v (.st 4)]
def ABY:List PK:=[.v (.st 5),.v (.st 5)]
def AMv:List PK:=[.v (.l (.st 4)),.v (.st 4)]
def ABZ:List PK:=[.v (.l (.st 4)),.v (.l (.st 4))]
def AMw:List PK:=[.v (.l (.st 5)),.v (.st 5)]
def ABa:List PK:=[.v (.l (.st 5)),.v (.l (.st 5))]
def AMx:List PK:=[.v (.st 1),.v (.st 7),.v (.l (.st 2)),.v .i,.v .i]
def Rl:List PK:=[.v .i]
def ABb:List PK:=[.v (.l .i),.v (.l .i)]
def ABc:List PK:=[.v (.st 1),.v (.st 1)]
def AMy:List PK:=[.v (.l (.st 2)),.v (.l (.st 2))]
def ABd:List PK:=[.v (.st 6),.v (.st 6)]
def ABe:List PK:=[.v (.st 7),.v (.st 7)]
def Nz:RK:=.ret [(.st 3),.b]
def oX:List G0:=[.cell 2 (some 15),.tmp 3]
def ABf:List PK:=[.v (.st 12),.v (.st 12)]
def AMz:List PK:=[.v (.l (.st 12)),.v (.l (.st 12))]
def oS:List PK:=[.v (.st 6),.v (.st 5)]
def oW:RK:=.ret [(.st 6),.b]
def oY:List G0:=[.cell 4 (some 1),.tmp 5]
def eB:List PK:=[.v (.st 8),.v (.st 0)]
def oT:List PK:=[.v (.st 2),.v .i]
def oU:List PK:=[.o (.st 8),.v (.st 2)]
def Ro:List G0:=[.cell 4 (some 15)]
def V8:List PK:=[.v (.st 3),.v .i]
def WB:List G0:=[.cell 4 (some 5),.tmp 5]
def AM1:List PK:=[.v (.st 8),.v .i,.v .i,.v .i,.v .i,.v .i]
def Il:RK:=.ret [(.st 8),.i]
def AM8:List G0:=[.cell 12 (some 15),.tmp 13]
def ABm:RK:=.ret [(.l (.st 4)),.b]
def ABr:List G0:=[.tmp 4,.tmp 5]
def Jx:List G0:=[.cell 4 (some 15),.tmp 5]
def AM9:List G0:=[.cell 6 (some 15),.tmp 7]
def ANA:List G0:=[.cell 6 (some 10),.tmp 7]
def ABg:List PK:=[.o (.st 8),.v .i]
def AM3:RK:=.ret [(.st 8),(.l .i)]
def AM4:RK:=.ret [(.st 8),.i,(.l .i)]
def ANB:List G0:=[.cell 4 (some 15),.tmp 5,.tmp 6]
def AM5:RK:=.ret [(.st 8),(.st 12)]
def ANC:List G0:=[.cell 4 (some 15),.cell 5 (some 2)]
def AM2:List PK:=[.v (.st 8),.v (.l (.st 0))]
def AM6:RK:=.ret [(.st 8),(.l (.st 12))]
def AM7:RK:=.ret [(.st 11),(.l (.st 12))]
def AND:List G0:=[.cell 2 (some 23),.tmp 3]
def V9:List PK:=[.b (.st 3),.p .i]
def WA:RK:=.ret []
end
end Lv
