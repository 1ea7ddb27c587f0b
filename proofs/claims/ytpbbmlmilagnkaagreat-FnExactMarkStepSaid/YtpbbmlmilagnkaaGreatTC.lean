/- The typed machine is right about the light one. -/
import Derived.Test.YtpbbmlmilagnkaaGreatTB
set_option linter.unusedVariables false
set_option linter.unusedSimpArgs false
set_option linter.unusedSectionVars false
namespace Lv
namespace Y
open Go (IntKind BinOp UnOp)
noncomputable section
def Rd(c a:Type):Type:=Nat->Nat->(a->Nat->Nat->c)->c
section
variable{c α β γ δ ε ζ:Type}
def gt:List α->Nat->α->α| [],_,a=>a|b::_,0,_=>b|_::l,n+1,a=>gt l n a
def rdE:List Nat->Nat->Nat->(Nat->Nat->c)->c
 | [],_,_,K=>K 0 0|e::l,r,q,K=>match Nat.blt r (e % 1024+1) with|true=>Cp ((e % 1024+1)*q+r) fun x=>Cp (e / 1024) fun s=>K s x|false=>rdE l (r-(e % 1024+1)) q K
def nu(l:List Nat):Rd c Nat:=fun x d K=>rdE l (x % 1024) (x / 1024) fun s x=>match Nat.beq s 999 with|true=>Cp (x % 1024) fun s=>Cp (x / 1024) fun x=>K s x d|false=>K s x d
def stp(z v:Nat):Nat:=(z / 1024 |||1 <<< (v+512))*1024+v
def dD(l:List Nat):Rd c Nat:=fun x z K=>nu l x z fun s x z=>Cp (z % 1024+s-160) fun v=>Cp (stp z v) fun z=>K v x z
def dA(l:List Nat):Rd c Nat:=fun x z K=>nu l x z fun v x z=>Cp (stp z v) fun z=>K v x z
def sl(l:List Nat):Rd c Nat:=fun x z K=>nu l x z fun s x z=>Cp (z % 1024+160-s) fun v=>K v x z
def m1(f:α->β)(a:Rd c α):Rd c β:=fun x d K=>a x d fun u x d=>K (f u) x d
def m2(f:α->β->γ)(a:Rd c α)(b:Rd c β):Rd c γ:=fun x d K=>a x d fun u x d=>b x d fun v x d=>K (f u v) x d
def m3(f:α->β->γ->δ)(a:Rd c α)(b:Rd c β)(e:Rd c γ):Rd c δ:=fun x d K=>a x d fun u x d=>b x d fun v x d=>e x d fun w x d=>K (f u v w) x d
def m4(f:α->β->γ->δ->ε)(a:Rd c α)(b:Rd c β)(e:Rd c γ)(g:Rd c δ):Rd c ε:=fun x d K=>a x d fun u x d=>m3 (f u) b e g x d K
def m5(f:α->β->γ->δ->ε->ζ)(a:Rd c α)(b:Rd c β)(e:Rd c γ)(g:Rd c δ)(h:Rd c ε):Rd c ζ:=fun x d K=>a x d fun u x d=>m4 (f u) b e g h x d K
def rep(m:Rd c α):Nat->Rd c (List α)|0=>fun x d K=>K [] x d|n+1=>m2 .cons m (rep m n)
def li(l:List Nat)(m:Rd c α):Rd c (List α):=fun x d K=>nu l x d fun n x d=>rep m n x d K
def kd(e:List Nat):Nat->Nat->Rd c (List Nat)|0,_=>fun x d K=>K [] x d|n+1,p=>fun x d K=>nu e x d fun s x d=>Cp (p+s) fun v=>kd e n v x d fun r=>K (v::r)
def ke(l e:List Nat):Rd c (List Nat):=fun x d K=>nu l x d fun n x d=>kd e n 0 x d K
def kp(t:List (List (List Nat)))(d:Nat):Nat->Nat->Nat->Nat->Nat->Nat->(List Nat->Nat->c)->c
 |0,_,_,_,_,x,K=>K [] x|f+1,i,o,w,p,x,K=>match Nat.beq (o |||w) 0 with
  |true=>K [] x|false=>Cp (o / 2) fun o'=>Cp (w / 2) fun w'=>Cp (i+1) fun j=>match Nat.beq ((o |||w) % 2) 0 with
   |true=>kp t d f j o' w' p x K|false=>rdE (gt (gt t (match Nat.beq i d with|true=>0|false=>1+w % 2) []) p []) (x % 1024) (x / 1024) fun s x=>match s with|0=>kp t d f j o' w' 0 x K|_=>kp t d f j o' w' 1 x fun r=>K (i::r)
def bits:List Nat->Nat->Nat| [],a=>a|i::r,a=>Cp (a |||1 <<< i) fun a=>bits r a
def cN(l:List Nat):Rd c Nat:=fun x z K=>nu l x z fun v x z=>Cp ((z / 1024 |||1 <<< (v+512))*1024+z % 1024) fun z=>K v x z
def ix(t:List α)(a:α)(l:List Nat):Rd c α:=m1 (fun n=>gt t n a) (nu l)
def t0:List Nat:=[429,1261,13436,7238,4155,10286,5136,3084,14348,6150,1022978]
def t1:List Nat:=[526544,1023172,409744,524341,527408,525345,156695,150549,157717,144401,159760,147470,149518,146445,155660,143371,152587,154635,151562,161802,162826,138249,153609,158728,410632,544776,139272,148487,145415,132102,125958,135174,141318,160774]
def t2:List Nat:=[3712,298,1085,1022997]
def t3:List Nat:=[1299,138,13423,7252,3153,15420,19503,4132,10273,8224,21535,16413,2064,1022991,6155,24585]
def t4:List Nat:=[8029,8325,13339]
def t5:List Nat:=[684,3151,24621,10277,7202,5151,2078,16412,11287,8204,6151,1022978]
def t6:List Nat:=[13558,16620,153,10353,17481,8248,3097,7186,6162,1042,24591,18444,5131,19464,1022983]
def t7:List Nat:=[11615,1251,141,2163,13371,1023028,3110,16401,14351]
def t8:List Nat:=[554,14482,3147,1023036,1069,6184,4129,10267,11276,13324,19465]
def t9:List Nat:=[7669,3446,1088,4140,2081,1022978]
def t10:List Nat:=[164478,1023291,183322,178196,185364]
def t11:List Nat:=[164182,165153,1023199,165991,166938,168977,131089]
def t12:List Nat:=[33698,1023010,33821,34833,29705]
def t13:List Nat:=[948,1054,2062,1022987,3080,8199]
def t14:List Nat:=[279,7362,14443,13407,16458,10309,8234,2073,5140,1022993,11280,1040,3086,19468,15370,6153,24584]
def t15:List Nat:=[527906,165340]
def t16:List Nat:=[165410,526812]
def t17:List Nat:=[2642,428]
def t18:List Nat:=[4418,2190,5245,3151,6214,1092,7207,1023006,8221,10261,9234,11279,13324,12297,14342,16389,15365,20485,21509]
def t19:List Nat:=[365,8343,7297,5249,2118,1079,18484,12336,20496]
def t20:List Nat:=[167,1182,5240,1023065,3141,4160,2089,6181,7204,8223,10270,9238,13329,11280,12301,409612,17419,20491,18440,14344,21512,16391,19462,24581,15365,23555,28675]
def t21:List Nat:=[168169,169151,170101,167021,172131,171081,173116,1023036,165915,177179,525329]
def t22:List Nat:=[413,1340,2142,3124,4138,5145,6164,7179,8203,9226,10249,1022985]
def t23:List Nat:=[165066,164040,166078,167045,168030,169030,170033,171032,172043,1022987,173066,175113,174088]
def t24:List Nat:=[165410,166034,1023053,166973,409649,410668,167957,170002,168978,413708,528395,415753]
def t25:List Nat:=[22041,1375,8325]
def t26:List Nat:=[3478,9425,5304,4182,1095,6203,1022978]
def t27:List Nat:=[4076,1022994]
def t28:List Nat:=[164857,1022981]
def t29:List Nat:=[306,10529,13398,16444,1083,17466,14390,24604,15376,7180,11274,6150,1022982,18437,12292,19460,20484]
def t30:List Nat:=[165275,166208,167068,1023029,167979,168978,171016,169991]
def t31:List Nat:=[933,1113]
def t32:List Nat:=[632,1414]
def t33:List Nat:=[1494,236,2203,10284,12332,16410,1023000,13329]
def t34:List Nat:=[165880,165893,1022976]
def t35:List Nat:=[1851,195]
def t36:List Nat:=[1751,3243,6198,2075,4120,5134,1022976]
def t37:List Nat:=[1961,62,2056,3079,4101]
def t38:List Nat:=[1014,1032]
def t39:List Nat:=[2004,1022995,15372,9225]
def t40:List Nat:=[905,1084,2104]
def t41:List Nat:=[165342,410901,409687,1023028,165926,716820,411667,543754,418825,534536,414727,417799]
def t42:List Nat:=[186,2214,1180,7263,5191,6194,3118,4142,11296,8221,9245,13341,15375,14350,12301,10252,22536,21508,1022980]
def t43:List Nat:=[577,8540,1075,3109,1022982]
def t44:List Nat:=[1446,2400,3247,41,4107,5130,1022982]
def t45:List Nat:=[165655,1023050,166933,165906,167947,171017,169992,168968,173062,177157,172037,175109,178180,179204,176132,182276,174083,184323,180227,181250,185346,190466,187394,183298,186369,189441]
def t46:List Nat:=[1287,3270,2219,4182,5184,1023029,6193,7202,9238,8210,10254,15373,23562,14341,13316,11268]
def uT:List (U):=[.int .i64 (-1),.nil,.bool false,.bool true,.int .i64 1000000,.int .i64 999,.int .i64 1000008,.int .i64 1000001,.int .i64 20000,.int .i64 9999,.int .u64 1,.int .u64 4294967296,.int .u64 32,.int .u64 65536,.int .u64 16,.int .u64 256,.int .u64 8,.int .i64 2147483647,.int .i64 127,.int .i64 128,.str [],.int .i64 4294967295,.int .i64 3988292384,.int .u64 24,.int .i64 (-5),.int .i64 1048576]
def hT:List (Sh):=[.one]
def cT:List (C):=[.i,.l (.st 5),.st 7,.l .i,.l (.st 2),.st 2,.l (.st 4),.st 4,.st 5,.l (.l (.st 5)),.l (.st 7),.l (.st 0),.st 0,.st 6,.b,.st 9,.st 8,.m,.u,.l .u,.st 15,.l (.st 15),.st 10,.st 11]
def nT:List (List (Nat×C)):=[[(0,.i)],[(0,.st 2)],[(0,.st 4)],[(0,.st 5)],[(0,.l (.st 5))],[(5,.st 4),(6,.l (.st 5))],[(0,.st 7)],[(0,.i),(11,.st 2),(12,.st 7),(13,.i),(14,.i)],[(0,.st 0)],[(0,.i),(11,.st 2),(12,.st 7),(13,.i),(14,.i),(22,.st 0)],[(12,.st 7)],[(0,.u)],[(11,.st 2),(12,.st 7),(13,.i),(14,.i)],[(0,.st 15)],[(6,.l (.st 5))]]
def zT:List (List U):=[[.nil,.int .i64 0,.int .i64 0,.int .i64 0,.int .i64 0,.int .i64 0,.int .i64 0,.int .i64 0,.int .i64 0],[.int .i64 0,.int .i64 0,.int .i64 0,.int .i64 0,.int .i64 0,.int .i64 0,.int .i64 0,.int .i64 0,.int .i64 0,.int .i64 0],[.int .i64 0,.int .i64 0,.int .i64 0,.int .i64 0,.int .i64 0],[.int .i64 0,.int .i64 0,.int .i64 0,.int .i64 0],[.int .i64 0,.int .i64 0],[.nil],[.int .i64 0,.int .i64 0,.int .i64 0,.int .i64 0,.int .i64 0,.nil,.nil],[.nil,.int .i64 0,.int .i64 0,.int .i64 0,.int .i64 0,.int .i64 0,.int .i64 0,.int .i64 0,.int .i64 0,.int .i64 0,.int .i64 0,.nil,.nil,.nil,.nil],[.str [],.int .i64 0],[.str [],.int .i64 0,.str [],.int .i64 0,.str [],.int .i64 0],[.int .i64 0,.int .i64 0,.int .i64 0,.int .i64 0,.int .i64 0,.int .i64 0],[.nil,.int .i64 0,.int .i64 0,.int .i64 0,.int .i64 0,.int .i64 0,.int .i64 0,.int .i64 0,.int .i64 0,.int .i64 0,.int .i64 0,.nil,.nil,.nil,.nil,.str [],.int .i64 0,.str [],.int .i64 0,.str [],.int .i64 0,.int .i64 0,.nil],[.nil,.int .i64 0,.bool false],[.int .i64 0,.str [],.int .i64 0]]
def bT:List (Cls×BinOp):=[(.num,.sub),(.num,.lss),(.num,.add),(.num,.geq),(.num,.leq),(.num,.eql),(.num,.gtr),(.num,.neq),(.num,.rem),(.num,.quo),(.agg [.i,.i,.i,.i],.neq),(.agg [.i,.i],.neq),(.agg [.i,.i,.i,.i,.i,.i],.eql),(.num,.shr),(.num,.mul),(.num,.xor),(.num,.and),(.num,.shl),(.num,.or),(.sl,.eql),(.bool,.neq)]
def UT:List (UnOp):=[.not]
def kT:List (IntKind):=[.u64,.i64,.u8]
def aT:List (AL):=[.num .u64,.val (.st 16) (some (.old 0)),.al (.cell 5 0),.val (.l .i) (some (.old 0)),.al (.cell 7 0)]
def pT:List (List Nat):=[t29,t25,t3,t25,t3,t3,t3,t6,t39,t3,t33,t17,t3,t4,t3,t3,t7,t29,t3,t3,t3,t43,t3,t3]
def kk(g:List Nat)(t:List (List (List Nat))):Rd c (List Nat):=fun x z K=>nu g x z fun s x z=>match s with|0=>kp t (z % 1024) 512 0 (z / 1024 % 2 ^ 512) (z / 1024 / 2 ^ 512) 1 x fun r x=>Cp (bits r 0*1024+z % 1024) fun z=>K r x z|_=>ke t44 t22 x z fun r x z=>Cp (bits r 0*1024+z % 1024) fun z=>K r x z
def od(l:List Nat)(q:Nat->Nat->Nat:=fun z s=>z % 1024+160-s):Rd c YO:=fun x d K=>nu l x d fun s x d=>match Nat.blt s 400 with
 |true=>Cp (q d s) fun v=>K (.tmp v) x d|false=>match Nat.blt s 512 with|true=>Cp (s-400) fun v=>K (.k (.int .i64 (Int.ofNat v))) x d|false=>K (.k (gt uT (s-512) .nil)) x d
def oo(l:List Nat):Rd c (Option YO):=fun x d K=>nu l x d fun s x d=>match Nat.blt s 400 with
 |true=>Cp (d % 1024+160-s) fun v=>K (some (.tmp v)) x d|false=>match Nat.blt s 512 with
  |true=>Cp (s-400) fun v=>K (some (.k (.int .i64 (Int.ofNat v)))) x d|false=>match Nat.blt s 700 with|true=>K (some (.k (gt uT (s-512) .nil))) x d|false=>K none x d
def on(l:List Nat):Rd c (Option Nat):=m1 (fun n=>match n with|0=>none|n+1=>some n) (nu l)
def bo(l:List Nat):Rd c Bool:=m1 (fun n=>match n with|0=>false|_=>true) (nu l)
def gu(l e:List Nat):Rd c (Option (Nat×Bool)):=fun x d K=>nu l x d fun s x d=>match s with|0=>K none x d|1=>sl e x d fun v=>K (some (v,false))|_=>sl e x d fun v=>K (some (v,true))
def nl(a b e:List Nat):Rd c (List (Bj×C)):=m3 (fun k s p=>p.map fun q=>(match k with|false=>.cell s q.1|true=>.tmp s q.1,q.2)) (bo a) (sl b) (ix nT [] e)
def aL(l:List Nat):Rd c AL:=fun x d K=>nu l x d fun s x d=>match Nat.blt s 500 with|true=>K (.val (gt cT s .i) none) x d|false=>K (gt aT (s-500) (.num .i64)) x d
def cu:Rd c Cut:=li t44 (m4 (fun b n h a=>(b,n,h,a)) (bo t31) (cN t20) (ix hT .one t38) (li t39 (aL t8)))
variable{R:List GF}
def cl(d:Nat)(g:Option GF)(l:List YO):YOp R:=match g with
 |none=>.bad none|some g=>match h:fX g.ps with| []=>.call d g [] (by rw[h];rfl) l|_::_=>.bad none
section
variable(G:List GF)(X:List (YOp R))
def oq:Nat->Rd c (YOp R)|0=>m2 .mv (dD t45) (od t20 fun _ s=>s)|1=>m2 .as (dA t18) (od t1)|2=>m4 .pick (dD t34) (od t21) (od t15) (od t16)|3=>m2 .alloc (dA t18) (ix zT [] t42)|4=>m2 .box (dD t30) (od t30)|5=>m3 .build (dD t45) (ix zT [] t42) (li t22 (m3 (fun a b e=>(a,b,e)) (nu t42) (nu t39) (od t45)))|6=>m4 .Bp (dD t45) (nu t22) (ix cT .i t19) (li t22 (m2 .mk (nu t22) (od t45)))|7=>m3 .ld (dD t45) (on t5) (od t45)|8=>m3 .st (nu t46) (od t10) (od t11)|9=>m2 .chk (dD t34) (od t45)|10=>m4 (fun d b x y=>.bin d b.1 b.2 x y) (dD t45) (ix bT (.num,.add) t42) (od t30) (od t41)|11=>m3 .un (dD t34) (ix UT .not t38) (od t34)|12=>m3 .cvI (dD t34) (ix kT .i64 t33) (od t34)|13=>m3 .fa (dD t45) (nu t42) (od t46 fun _ s=>s)|14=>m4 .ia (dD t34) (ix cT .i t19) (od t30) (od t24)|15=>m3 .ext (dD t45) (od t21) (nu t33)|16=>m3 cl (dD t45) (ix (G.map some) none t22) (li t44 (od t24))|17=>m2 .len (dD t34) (od t34)|18=>m2 .lens (dD t34) (od t34)|19=>m5 .app (dD t45) (ix cT .i t19) (bo t37) (od t21) (od t34)|20=>m5 .sub (dD t34) (ix cT .i t19) (od t30) (oo t41) (oo t41)|21=>m1 .RT (nl t32 t28 t42)|22=>m2 .NO (dD t34) (od t34)|23=>m4 .P2 (dD t34) (od t23) (oo t24) (oo t41)|_=>ix X (.bad none) t22
def oP(l:List Nat):Rd c (Nat×YOp R):=fun x d K=>nu l x d fun h x d=>oq G X h x d fun o=>K (h,o)
def oL:Nat->List Nat->Rd c (List (Option (Nat×Bool)×YOp R))|0,_=>fun x d K=>K [] x d|n+1,l=>fun x d K=>gu t40 t23 x d fun g x d=>oP G X l x d fun o x d=>oL n (gt pT o.1 t3) x d fun r=>K ((g,o.2)::r)
def rn:Nat->Nat->Rd c (BS R)
 |0,_=>fun x d K=>K .nil x d|f+1,j=>fun x d K=>nu t37 x d fun h x d=>(match h with
  |0=>fun x d K=>K .nil x d|1=>fun x d K=>nu t12 x d fun i x d=>Cp (j+i-32) fun i=>m4 (fun g s o r=>.op i g s o.2 r) (gu t40 t23) (ke t13 t46) (oP G X t14) (rn f (i+1)) x d K|2=>m2 .dr (ke t20 t39) (rn f j)|3=>m2 .nl (nl t32 t28 t29) (rn f j)|_=>m3 .both (nu t38) (rn f j) (rn f j):Rd c (BS R)) x d K
def cd:Nat->List Nat->Rd c (E5 R)
 |0,_=>fun x d K=>K .dead x d|f+1,l=>fun x d K=>nu l x d fun h x d=>(match h with
  |0=>fun x d K=>K .skip x d|1=>m2 .region (fun x d K=>nu t46 x d fun n x d=>oL G X n t0 x d K) (kk t31 [[t35,t37],[t32,t35],[t38,t32]])|2=>m2 .SZ (rn G X 900 0) (kk t31 [[t35,t37],[t32,t35],[t38,t32]])|3=>m2 .seq (cd f t36) (cd f t26)|4=>m3 .join cu (cd f t36) (cd f t26)|5=>fun x z K=>sl t28 x z fun n x z=>(kk t38 [[t38,t38],[t31,t35],[t0,t0]]) x z fun t x y=>(kk t38 [[t38,t38],[t32,t35],[t0,t0]]) x z fun e x z=>cd f t2 x y fun a x y=>Cp (z / 1024*1024+y % 1024) fun z=>cd f t43 x z fun b x z=>
   Cp ((y / 1024 |||z / 1024)*1024+z % 1024) fun z=>K (.cond n t e a b) x z
  |6=>m2 .block (nu t22) (cd f t9)|7=>m2 .loop cu (cd f t27)|8=>m1 .exit (nu t22)|9=>fun x d K=>K .ret x d|10=>m1 .scope (cd f t9)|11=>m2 .or (cd f t9) (cd f t9)|12=>fun x d K=>K .dead x d|_=>m2 .AI2 cu (cd f t27):Rd c (E5 R)) x d K
end
end
end
end Y
noncomputable section
open Y
def dY{R:List GF}(n:Nat)(G:List GF)(X:List (YOp R):=[]):E5 R:=cd G X 300 t27 n 0 fun a _ _=>a
def gZ(ps:List PK)(rk:RK)(rs:List H9)(n:Nat)(G:List GF)(d:A ps->Option (Tu (rk.cs++Ia ps)))(X:List (YOp []):=[])
 (hd:∀a,(YF.mk [] ps [] rk rs (dY n G X)).run a=d a:=by intro a;kernel_rfl) (hp:oN ps=true:=by rfl)
 (hf:([]:List Nat).map (fun n=>(([]:List GF)[n]?).map GF.x)=(fX ps).map some:=by rfl):GF:=YF.gf ⟨[],ps,[],rk,rs,dY n G X⟩ hp hf d hd
def nW:List PK:=[.v (.l .i),.v .i]
def Ca:RK:=.ret [.i]
def Br:List H9:=[.tmp 4]
def RG:List PK:=[.v (.l (.st 2)),.v .i]
def AEp:List PK:=[.v (.l (.st 4)),.v .i]
def AJc:List PK:=[.v (.l (.l (.st 5))),.v .i]
def nX:List PK:=[.v (.st 8),.v .i]
def AEs:List PK:=[.v (.st 9),.v .i]
def Xv:List PK:=[.v (.st 10),.v .i]
def Tv:List PK:=[.v (.st 11),.v .i]
def Pe:List PK:=[.v (.l .i)]
def Nt:RK:=.ret [(.l .i)]
def CE:List H9:=[.tmp 2]
def Pf:List PK:=[.v (.st 1)]
def uH:RK:=.ret [(.st 1)]
def uM:List H9:=[.cell 2 (some 9)]
def Xq:List PK:=[.v (.l (.st 4))]
def Xw:RK:=.ret [(.l (.st 4))]
def fF:List H9:=[.cell 2 (some 2)]
def uB:List PK:=[.v (.l (.st 5))]
def Xx:RK:=.ret [(.l (.st 5))]
def Pg:List PK:=[.v (.st 6)]
def uI:RK:=.ret [(.st 6)]
def uN:List H9:=[.cell 2 (some 1)]
def Xr:List PK:=[.v (.st 7)]
def uJ:RK:=.ret [(.st 7)]
def uO:List H9:=[.cell 2 (some 7)]
def K4:List PK:=[.v (.st 8)]
def Xs:List PK:=[.v (.st 9)]
def Xy:RK:=.ret [(.st 9)]
def Xt:List PK:=[.v (.st 10)]
def uK:RK:=.ret [(.st 10)]
def Xu:List PK:=[.v (.st 11)]
def uL:RK:=.ret [(.st 11)]
def uP:List H9:=[.cell 2 (some 23)]
def uC:List PK:=[.v .i,.v .i,.v .i]
def Bz:RK:=.ret [.b]
def MW:List H9:=[.tmp 6]
def Sl:List PK:=[.v (.st 1),.v (.st 2),.v .i]
def ez:List PK:=[.v (.st 4),.v (.st 4)]
def uD:List PK:=[.v (.st 5),.v (.st 5)]
def fA:List PK:=[.v .i,.v .i]
def uE:List PK:=[.v (.l (.st 4)),.v (.l (.st 4))]
def uF:List PK:=[.v (.l (.st 5)),.v (.l (.st 5))]
def AEq:List PK:=[.v (.st 1),.v (.st 7),.v (.l (.st 2)),.v .i,.v .i]
def Sn:List PK:=[.v .i]
def uG:List PK:=[.v (.l .i),.v (.l .i)]
def Nu:RK:=.ret [.s]
def fB:RK:=.ret [(.st 9),.b]
def fG:List H9:=[.cell 4 (some 2),.tmp 5]
def So:List PK:=[.v .s]
def fC:RK:=.ret [(.st 6),.b]
def fD:RK:=.ret [(.st 8),.i,.b]
def AEt:List H9:=[.cell 2 (some 15),.tmp 3,.tmp 4]
def AEu:List H9:=[.cell 4 (some 15),.tmp 5,.tmp 6]
def AEr:List PK:=[.v (.st 10),.v .i,.v (.st 9)]
def fE:RK:=.ret [(.st 11),.b]
def fH:List H9:=[.cell 4 (some 23),.tmp 5]
end
end Lv
