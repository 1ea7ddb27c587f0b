/-
  The functions that the law FnSnapTorn reaches are the texts that are shown.
-/
import Derived.Test.YtffakkimlookoaaGreatRows
import Derived.Test.YtffakkimlookoaaGreatKD
import Derived.Test.YtffakkimlookoaaGreatLF
import Derived.Test.YtffakkimlookoaaGreatLvE
import Derived.Test.YtffakkimlookoaaGreatPH
import Derived.WalkKit
import Derived.OpenShut
import Derived.JoinedCond
set_option linter.unusedVariables false
set_option linter.unusedSimpArgs false
namespace Go.Proofs.YtffakkimlookoaaGreat.fnSnapTorn
open Go Lv Lv.P
set_option maxRecDepth 100000
abbrev M(n:Nat)(g:GF):Prop:=Mt (PA Tryz.prog) Tryz.prog n g.x
theorem MB {A P n fn f} {l:List (Nat×BD)} (h1:P.funcs[n]?=some fn) (h4:∀p∈l,Mt A P p.1 p.2) (h2:sX P fn f=true:=by kernel_rfl) (h3:cK fn f=l:=by kernel_rfl):Mt A P n f:=Mt.by h1 h2 h3 h4
theorem Vw:M 10 Jl:=MB Tryz.func10 (l:=[]) .none
theorem Vx:M 35 LF:=MB Tryz.func35 (l:=[]) .none
theorem Vy:M 108 G7:=MB Tryz.func108 (l:=[]) .none
theorem Ak:M 39 AQ:=MB Tryz.func39 (l:=List.replicate 5 (108,G7.x)++[]) (.rep 5 Vy .none)
theorem Vz:M 99 Nz:=MB Tryz.func99 (l:=List.replicate 10 (39,AQ.x)++[]) (.rep 10 Ak .none)
theorem Br:M 65 Az:=MB Tryz.func65 (l:=[]) .none
theorem HI:M 64 Dv:=MB Tryz.func64 (l:=List.replicate 10 (65,Az.x)++[]) (.rep 10 Br .none)
theorem V8:M 146 N4:=MB Tryz.func146 (l:=[]) .none
theorem Rz:M 167 LP:=MB Tryz.func167 (l:=List.replicate 5 (65,Az.x)++[]) (.rep 5 Br .none)
theorem V9:M 180 N5:=MB Tryz.func180 (l:=[(167,LP.x)]) (.and Rz .none)
theorem HM:M 122 Dx:=MB Tryz.func122 (l:=[]) .none
theorem WA:M 147 N6:=MB Tryz.func147 (l:=[(180,N5.x),(122,Dx.x)]) (.and V9 (.and HM .none))
theorem WB:M 100 N7:=MB Tryz.func100 (l:=[(64,Dv.x),(146,N4.x),(147,N6.x)]) (.and HI (.and V8 (.and WA .none)))
theorem CT:M 73 Bk:=MB Tryz.func73 (l:=[(39,AQ.x)]) (.and Ak .none)
theorem OO:M 101 IJ:=MB Tryz.func101 (l:=List.replicate 27 (39,AQ.x)++(65,Az.x)::(39,AQ.x)::(73,Bk.x)::(39,AQ.x)::(73,Bk.x)::(39,AQ.x)::(73,Bk.x)::(39,AQ.x)::[]) (.rep 27 Ak (.and Br (.and Ak (.and CT (.and Ak (.and CT (.and Ak (.and CT (.and Ak .none)))))))))
theorem Vv:M 102 Ny:=MB Tryz.func102 (l:=[]) .none
theorem Lx:M 103 G9:=MB Tryz.func103 (l:=[]) .none
theorem Rx:M 69 LD:=MB Tryz.func69 (l:=[]) .none
theorem KQ:M 59 Fp:=MB Tryz.func59 (l:=[(65,Az.x)]) (.and Br .none)
theorem I5:M 60 Ej:=MB Tryz.func60 (l:=[(65,Az.x)]) (.and Br .none)
theorem WH:M 104 N9:=MB Tryz.func104 (l:=[(59,Fp.x),(60,Ej.x)]) (.and KQ (.and I5 .none))
theorem WI:M 105 OA:=MB Tryz.func105 (l:=[(103,G9.x)]) (.and Lx .none)
theorem R4:M 163 LS:=MB Tryz.func163 (l:=[]) .none
theorem Ly:M 124 HE:=MB Tryz.func124 (l:=[(163,LS.x)]) (.and R4 .none)
theorem P1:M 58 I0:=MB Tryz.func58 (l:=[(124,HE.x)]) (.and Ly .none)
theorem Lu:M 161 G5:=MB Tryz.func161 (l:=[]) .none
theorem R3:M 169 LR:=MB Tryz.func169 (l:=[]) .none
theorem GB:M 162 Di:=MB Tryz.func162 (l:=[(169,LR.x),(65,Az.x),(65,Az.x),(163,LS.x)]) (.and R3 (.and Br (.and Br (.and R4 .none))))
theorem J2:M 123 El:=MB Tryz.func123 (l:=[(161,G5.x),(162,Di.x),(124,HE.x),(162,Di.x),(161,G5.x)]) (.and Lu (.and GB (.and Ly (.and GB (.and Lu .none)))))
theorem NJ:M 62 HD:=MB Tryz.func62 (l:=[]) .none
theorem Py:M 56 Ix:=MB Tryz.func56 (l:=(64,Dv.x)::List.replicate 11 (65,Az.x)++[]) (.and HI (.rep 11 Br .none))
theorem gK:M 192 VB:=MB Tryz.func192 (l:=[(62,HD.x)]) (.and NJ .none)
theorem gM:M 164 VC:=MB Tryz.func164 (l:=[(56,Ix.x),(192,VB.x)]) (.and Py (.and gK .none))
theorem R5:M 125 LV:=MB Tryz.func125 (l:=[(164,VC.x)]) (.and gM .none)
theorem R0:M 165 LQ:=MB Tryz.func165 (l:=[]) .none
theorem NK:M 166 Hw:=MB Tryz.func166 (l:=[]) .none
theorem WY:M 126 NH:=MB Tryz.func126 (l:=[(165,LQ.x),(166,Hw.x),(166,Hw.x)]) (.and R0 (.and NK (.and NK .none)))
theorem P0:M 61 Iz:=MB Tryz.func61 (l:=[(125,LV.x),(125,LV.x),(126,NH.x)]) (.and R5 (.and R5 (.and WY .none)))
theorem WJ:M 106 OB:=MB Tryz.func106 (l:=[(122,Dx.x),(58,I0.x),(123,El.x),(59,Fp.x),(60,Ej.x),(62,HD.x),(61,Iz.x)]) (.and HM (.and P1 (.and J2 (.and KQ (.and I5 (.and NJ (.and P0 .none)))))))
theorem Ry:M 127 LM:=MB Tryz.func127 (l:=[]) .none
theorem WK:M 107 OC:=MB Tryz.func107 (l:=[(127,LM.x)]) (.and Ry .none)
theorem OP:M 37 HA:=MB Tryz.func37 (l:=[(99,Nz.x),(100,N7.x),(39,AQ.x),(39,AQ.x),(101,IJ.x),(39,AQ.x),(39,AQ.x),(39,AQ.x),(102,Ny.x),(103,G9.x),(69,LD.x),(104,N9.x),(105,OA.x),(39,AQ.x),(106,OB.x),(73,Bk.x),(107,OC.x),(73,Bk.x),(39,AQ.x)]) (.and Vz (.and WB (.and Ak (.and Ak (.and OO (.and Ak (.and Ak (.and Ak (.and Vv (.and Lx (.and Rx (.and WH (.and WI (.and Ak (.and WJ (.and CT (.and WK (.and CT (.and Ak .none)))))))))))))))))))
theorem DM:M 38 B0:=MB Tryz.func38 (l:=[(39,AQ.x)]) (.and Ak .none)
theorem jf:M 132 Uy:=MB Tryz.func132 (l:=[(64,Dv.x),(101,IJ.x),(38,B0.x),(39,AQ.x),(38,B0.x)]) (.and HI (.and OO (.and DM (.and Ak (.and DM .none)))))
theorem WD:M 194 LJ:=MB Tryz.func194 (l:=List.replicate 4 (39,AQ.x)++[]) (.rep 4 Ak .none)
theorem jg:M 170 Uz:=MB Tryz.func170 (l:=[(194,LJ.x),(38,B0.x),(39,AQ.x)]) (.and WD (.and DM (.and Ak .none)))
theorem WE:M 196 LK:=MB Tryz.func196 (l:=List.replicate 4 (39,AQ.x)++(38,B0.x)::(39,AQ.x)::[]) (.rep 4 Ak (.and DM (.and Ak .none)))
theorem gJ:M 193 VA:=MB Tryz.func193 (l:=[]) .none
theorem Pz:M 168 Iy:=MB Tryz.func168 (l:=List.replicate 4 (65,Az.x)++(165,LQ.x)::(193,VA.x)::[]) (.rep 4 Br (.and R0 (.and gJ .none)))
theorem jh:M 208 U0:=MB Tryz.func208 (l:=[(126,NH.x),(168,Iy.x),(168,Iy.x),(166,Hw.x)]) (.and WY (.and Pz (.and Pz (.and NK .none))))
theorem WG:M 195 LL:=MB Tryz.func195 (l:=[(39,AQ.x),(73,Bk.x),(39,AQ.x),(196,LK.x),(208,U0.x)]) (.and Ak (.and CT (.and Ak (.and WE (.and jh .none)))))
theorem ji:M 171 U1:=MB Tryz.func171 (l:=[(195,LL.x),(39,AQ.x),(196,LK.x)]) (.and WG (.and Ak (.and WE .none)))
theorem WV:M 198 LN:=MB Tryz.func198 (l:=[(39,AQ.x),(39,AQ.x),(39,AQ.x),(38,B0.x),(38,B0.x)]) (.and Ak (.and Ak (.and Ak (.and DM (.and DM .none)))))
theorem jj:M 209 U2:=MB Tryz.func209 (l:=[(39,AQ.x),(198,LN.x)]) (.and Ak (.and WV .none))
theorem WW:M 197 LO:=MB Tryz.func197 (l:=[(122,Dx.x),(209,U2.x),(73,Bk.x),(123,El.x)]) (.and HM (.and jj (.and CT (.and J2 .none))))
theorem jk:M 172 U3:=MB Tryz.func172 (l:=[(197,LO.x),(39,AQ.x),(39,AQ.x),(198,LN.x),(39,AQ.x)]) (.and WW (.and Ak (.and Ak (.and WV (.and Ak .none)))))
theorem jl:M 173 U4:=MB Tryz.func173 (l:=[(194,LJ.x),(195,LL.x),(197,LO.x)]) (.and WD (.and WG (.and WW .none)))
theorem jm:M 133 U5:=MB Tryz.func133 (l:=[(73,Bk.x),(170,Uz.x),(171,U1.x),(172,U3.x),(173,U4.x)]) (.and CT (.and jg (.and ji (.and jk (.and jl .none)))))
theorem jo:M 74 U6:=MB Tryz.func74 (l:=[(37,HA.x),(38,B0.x),(39,AQ.x),(132,Uy.x),(133,U5.x)]) (.and OP (.and DM (.and Ak (.and jf (.and jm .none)))))
theorem jq:M 75 U7:=MB Tryz.func75 (l:=[(38,B0.x)]) (.and DM .none)
theorem jr:M 21 Qw:=MB Tryz.func21 (l:=[(35,LF.x),(37,HA.x),(73,Bk.x),(74,U6.x),(75,U7.x)]) (.and Vx (.and OP (.and CT (.and jo (.and jq .none)))))
theorem A0:M 41 Af:=MB Tryz.func41 (l:=[]) .none
theorem Ft:M 109 Dg:=MB Tryz.func109 (l:=List.replicate 10 (41,Af.x)++[]) (.rep 10 A0 .none)
theorem EY:M 120 DB:=MB Tryz.func120 (l:=[(41,Af.x)]) (.and A0 .none)
theorem Lj:M 117 Gx:=MB Tryz.func117 (l:=[(109,Dg.x),(41,Af.x),(41,Af.x),(120,DB.x),(41,Af.x),(41,Af.x),(120,DB.x),(41,Af.x),(41,Af.x),(120,DB.x),(41,Af.x),(41,Af.x)]) (.and Ft (.and A0 (.and A0 (.and EY (.and A0 (.and A0 (.and EY (.and A0 (.and A0 (.and EY (.and A0 (.and A0 .none))))))))))))
theorem gF:M 118 Uq:=MB Tryz.func118 (l:=[]) .none
theorem Ve:M 189 Nj:=MB Tryz.func189 (l:=List.replicate 5 (41,Af.x)++[]) (.rep 5 A0 .none)
theorem Lm:M 184 G0:=MB Tryz.func184 (l:=[]) .none
theorem Es:M 150 DI:=MB Tryz.func150 (l:=[(184,G0.x),(184,G0.x)]) (.and Lm (.and Lm .none))
theorem Lo:M 112 CZ:=MB Tryz.func112 (l:=[(150,DI.x),(150,DI.x)]) (.and Es (.and Es .none))
theorem Vf:M 204 Nk:=MB Tryz.func204 (l:=[(112,CZ.x)]) (.and Lo .none)
theorem Vg:M 215 Jk:=MB Tryz.func215 (l:=[]) .none
theorem Vh:M 214 Nl:=MB Tryz.func214 (l:=[]) .none
theorem Vi:M 205 Nm:=MB Tryz.func205 (l:=[(215,Jk.x),(214,Nl.x)]) (.and Vg (.and Vh .none))
theorem Vj:M 190 Nn:=MB Tryz.func190 (l:=[(204,Nk.x),(205,Nm.x),(120,DB.x),(41,Af.x),(41,Af.x),(41,Af.x)]) (.and Vf (.and Vi (.and EY (.and A0 (.and A0 (.and A0 .none))))))
theorem Lp:M 153 G1:=MB Tryz.func153 (l:=[(41,Af.x),(41,Af.x)]) (.and A0 (.and A0 .none))
theorem Et:M 116 Bg:=MB Tryz.func116 (l:=[(150,DI.x),(150,DI.x)]) (.and Es (.and Es .none))
theorem Eu:M 152 DJ:=MB Tryz.func152 (l:=[(153,G1.x),(116,Bg.x)]) (.and Lp (.and Et .none))
theorem Vk:M 156 No:=MB Tryz.func156 (l:=[(189,Nj.x),(190,Nn.x),(152,DJ.x)]) (.and Ve (.and Vj (.and Eu .none)))
theorem Vl:M 181 Np:=MB Tryz.func181 (l:=[(109,Dg.x),(120,DB.x)]) (.and Ft (.and EY .none))
theorem Vm:M 148 Nq:=MB Tryz.func148 (l:=[(117,Gx.x),(181,Np.x)]) (.and Lj (.and Vl .none))
theorem Vn:M 110 Nr:=MB Tryz.func110 (l:=[(117,Gx.x),(148,Nq.x)]) (.and Lj (.and Vm .none))
theorem Lq:M 182 G2:=MB Tryz.func182 (l:=[]) .none
theorem HL:M 211 EN:=MB Tryz.func211 (l:=[]) .none
theorem Vo:M 201 Ns:=MB Tryz.func201 (l:=[(211,EN.x),(211,EN.x),(211,EN.x)]) (.and HL (.and HL (.and HL .none)))
theorem Er:(k:Nat)->Mt (PA Tryz.prog) Tryz.prog 183 (GG k).x
 |0=>.GQ (.inr ⟨rfl,_,Tryz.func183,by kernel_rfl,by kernel_rfl⟩)
 |k+1=>MB (f:=(Um (GG k)).x) Tryz.func183 (l:=[(201,Ns.x),(183,(GG k).x),(183,(GG k).x)]) (.and Vo (.and (Er k) (.and (Er k) .none)))
theorem Lr:M 183 G3:=Er 7
theorem Vp:M 149 Nt:=MB Tryz.func149 (l:=[(182,G2.x),(182,G2.x),(183,G3.x),(183,G3.x)]) (.and Lq (.and Lq (.and Lr (.and Lr .none))))
theorem Vq:M 111 Nu:=MB Tryz.func111 (l:=[(149,Nt.x)]) (.and Vp .none)
theorem Lt:M 43 G4:=MB Tryz.func43 (l:=[(110,Nr.x),(111,Nu.x),(112,CZ.x)]) (.and Vn (.and Vq (.and Lo .none)))
theorem Vr:M 157 Nv:=MB Tryz.func157 (l:=[]) .none
theorem Vt:M 224 Nw:=MB Tryz.func224 (l:=[]) .none
theorem Vu:M 207 Nx:=MB Tryz.func207 (l:=[(224,Nw.x)]) (.and Vt .none)
theorem HJ:M 187 EL:=MB Tryz.func187 (l:=[]) .none
theorem VY:M 206 Nc:=MB Tryz.func206 (l:=[(187,EL.x)]) (.and HJ .none)
theorem VZ:M 191 Nd:=MB Tryz.func191 (l:=[(207,Nx.x),(206,Nc.x)]) (.and Vu (.and VY .none))
theorem Va:M 159 Nf:=MB Tryz.func159 (l:=[(152,DJ.x),(191,Nd.x),(116,Bg.x)]) (.and Eu (.and VZ (.and Et .none)))
theorem HK:M 213 EM:=MB Tryz.func213 (l:=[]) .none
theorem Vb:M 203 Ng:=MB Tryz.func203 (l:=[(213,EM.x),(213,EM.x),(213,EM.x)]) (.and HK (.and HK (.and HK .none)))
theorem Ep:(k:Nat)->Mt (PA Tryz.prog) Tryz.prog 188 (GD k).x
 |0=>.GQ (.inr ⟨rfl,_,Tryz.func188,by kernel_rfl,by kernel_rfl⟩)
 |k+1=>MB (f:=(Ul (GD k)).x) Tryz.func188 (l:=[(203,Ng.x),(188,(GD k).x),(188,(GD k).x)]) (.and Vb (.and (Ep k) (.and (Ep k) .none)))
theorem Lk:M 188 Gy:=Ep 7
theorem Vc:M 155 Nh:=MB Tryz.func155 (l:=[(187,EL.x),(187,EL.x),(188,Gy.x),(188,Gy.x)]) (.and HJ (.and HJ (.and Lk (.and Lk .none))))
theorem Vd:M 115 Ni:=MB Tryz.func115 (l:=[(155,Nh.x)]) (.and Vc .none)
theorem Ll:M 47 Gz:=MB Tryz.func47 (l:=[(115,Ni.x),(116,Bg.x)]) (.and Vd (.and Et .none))
theorem V1:M 158 N0:=MB Tryz.func158 (l:=[]) .none
theorem Ev:M 44 DK:=MB Tryz.func44 (l:=[(41,Af.x)]) (.and A0 .none)
theorem Dl:M 45 Cg:=MB Tryz.func45 (l:=[(41,Af.x)]) (.and A0 .none)
theorem V2:M 119 N1:=MB Tryz.func119 (l:=[(156,No.x),(43,G4.x),(157,Nv.x),(159,Nf.x),(47,Gz.x),(158,N0.x),(44,DK.x),(45,Cg.x)]) (.and Vk (.and Lt (.and Vr (.and Va (.and Ll (.and V1 (.and Ev (.and Dl .none))))))))
theorem V3:M 160 N2:=MB Tryz.func160 (l:=[]) .none
theorem V4:M 121 N3:=MB Tryz.func121 (l:=[(160,N2.x)]) (.and V3 .none)
theorem F3:M 49 Dh:=MB Tryz.func49 (l:=[(109,Dg.x),(41,Af.x),(41,Af.x),(117,Gx.x),(118,Uq.x),(119,N1.x),(120,DB.x),(121,N3.x),(41,Af.x)]) (.and Ft (.and A0 (.and A0 (.and Lj (.and gF (.and V2 (.and EY (.and V4 (.and A0 .none)))))))))
theorem J0:M 70 FM:=MB Tryz.func70 (l:=[(109,Dg.x)]) (.and Ft .none)
theorem jc:M 16 Uv:=MB Tryz.func16 (l:=[(49,Dh.x),(70,FM.x)]) (.and F3 (.and J0 .none))
theorem J1:M 76 Ek:=MB Tryz.func76 (l:=[(41,Af.x)]) (.and A0 .none)
theorem V5:M 77 LG:=MB Tryz.func77 (l:=[(76,Ek.x)]) (.and J1 .none)
theorem V6:M 78 LH:=MB Tryz.func78 (l:=[]) .none
theorem jd:M 22 jM:=MB Tryz.func22 (l:=[(16,Uv.x),(41,Af.x),(76,Ek.x),(77,LG.x),(78,LH.x)]) (.and jc (.and A0 (.and J1 (.and V5 (.and V6 .none)))))
theorem je:M 16 Uw:=MB Tryz.func16 (l:=[(49,Dh.x),(70,FM.x)]) (.and F3 (.and J0 .none))
theorem xZ:M 22 jN:=MB Tryz.func22 (l:=[(16,Uw.x),(41,Af.x),(76,Ek.x),(77,LG.x),(78,LH.x)]) (.and je (.and A0 (.and J1 (.and V5 (.and V6 .none)))))
theorem V7:M 22 Jm:=jd
theorem gG:M 66 Ux:=MB Tryz.func66 (l:=[(56,Ix.x)]) (.and Py .none)
theorem gH:M 67 U9:=MB Tryz.func67 (l:=[(65,Az.x),(127,LM.x),(65,Az.x)]) (.and Br (.and Ry (.and Br .none)))
theorem WX:M 128 LU:=MB Tryz.func128 (l:=[(167,LP.x),(168,Iy.x),(162,Di.x)]) (.and Rz (.and Pz (.and GB .none)))
theorem YU:M 129 Pg:=MB Tryz.func129 (l:=[]) .none
theorem WZ:M 131 LW:=MB Tryz.func131 (l:=[(162,Di.x),(169,LR.x),(124,HE.x)]) (.and GB (.and R3 (.and Ly .none)))
theorem YV:M 130 Ph:=MB Tryz.func130 (l:=[]) .none
theorem gD:M 68 Up:=MB Tryz.func68 (l:=[(128,LU.x),(61,Iz.x),(129,Pg.x),(131,LW.x),(58,I0.x),(130,Ph.x),(59,Fp.x),(60,Ej.x)]) (.and WX (.and P0 (.and YU (.and WZ (.and P1 (.and YV (.and KQ (.and I5 .none))))))))
theorem Px:M 14 Fq:=MB Tryz.func14 (l:=[(64,Dv.x),(65,Az.x),(65,Az.x),(66,Ux.x),(67,U9.x),(68,Up.x),(69,LD.x)]) (.and HI (.and Br (.and Br (.and gG (.and gH (.and gD (.and Rx .none)))))))
theorem WL:M 24 HB:=MB Tryz.func24 (l:=[]) .none
theorem jZ:M 134 Ur:=MB Tryz.func134 (l:=[(41,Af.x),(76,Ek.x)]) (.and A0 (.and J1 .none))
theorem ja:M 79 Ut:=MB Tryz.func79 (l:=[(134,Ur.x)]) (.and jZ .none)
theorem WM:M 40 OD:=MB Tryz.func40 (l:=[]) .none
theorem HN:M 48 EO:=MB Tryz.func48 (l:=[]) .none
theorem WN:M 42 OE:=MB Tryz.func42 (l:=[(48,EO.x),(48,EO.x),(109,Dg.x)]) (.and HN (.and HN (.and Ft .none)))
theorem WC:M 113 N8:=MB Tryz.func113 (l:=[]) .none
theorem Lw:M 151 G6:=MB Tryz.func151 (l:=[]) .none
def Ar:Go.Shelf.Ren:=⟨fun|29=>185|30=>186|n=>n,fun|0=>0|3=>3|4=>4|9=>134|24=>85|n=>n,fun n=>n⟩
theorem BB:RW Tryz.prog Ar 154 2 where
 mixed:=by kernel_rfl
 f22:=⟨"slices.Insert[[]loop.example/g00494/impl.Pin,loop.example/g00494/impl.Pin]",by decide,Tryz.func154.trans (congrArg some (by kernel_rfl))⟩
 ov:=fun args w=>Go.run_callFunc_extern Tryz.func185 (by kernel_rfl) (by kernel_rfl) (by kernel_rfl) (by kernel_rfl) args w
 t3:=Tryz.underlying3
 a3:=Tryz.isAgg3
 z3:=Tryz.sizeOf3
 t4:=Tryz.underlying4
 a4:=Tryz.isAgg4
 t24:=Tryz.underlying85
 a24:=Tryz.isAgg85
 z9:=Tryz.sizeOf134
 el:=by kernel_rfl
 gr:=by kernel_rfl
 two:=by decide
theorem WO:M 154 OF:=.GQ (.inl ⟨Ar,2,BB,rfl,rfl⟩)
theorem WQ:M 114 OG:=MB Tryz.func114 (l:=[(151,G6.x),(152,DJ.x),(153,G1.x),(116,Bg.x),(154,OF.x),(152,DJ.x),(151,G6.x)]) (.and Lw (.and Eu (.and Lp (.and Et (.and WO (.and Eu (.and Lw .none)))))))
theorem WR:M 46 OH:=MB Tryz.func46 (l:=[(113,N8.x),(114,OG.x)]) (.and WC (.and WQ .none))
theorem ON:M 16 G8:=MB Tryz.func16 (l:=[(49,Dh.x),(70,FM.x)]) (.and F3 (.and J0 .none))
theorem WS:M 50 OI:=MB Tryz.func50 (l:=[]) .none
theorem RC:M 12 IK:=MB Tryz.func12 (l:=[(40,OD.x),(41,Af.x),(42,OE.x),(41,Af.x),(43,G4.x),(44,DK.x),(45,Cg.x),(45,Cg.x),(44,DK.x),(45,Cg.x),(44,DK.x),(45,Cg.x),(47,Gz.x),(46,OH.x),(41,Af.x),(48,EO.x),(49,Dh.x),(16,G8.x),(50,OI.x)]) (.and WM (.and A0 (.and WN (.and A0 (.and Lt (.and Ev (.and Dl (.and Dl (.and Ev (.and Dl (.and Ev (.and Dl (.and Ll (.and WR (.and A0 (.and HN (.and F3 (.and ON (.and WS .none)))))))))))))))))))
theorem aC:M 23 LI:=MB Tryz.func23 (l:=[(79,Ut.x),(12,IK.x),(22,Jm.x)]) (.and ja (.and RC (.and V7 .none)))
theorem OM:M 5 DH:=MB Tryz.func5 (l:=[(10,Jl.x),(21,Qw.x),(22,Jm.x),(14,Fq.x),(24,HB.x),(24,HB.x),(23,LI.x),(24,HB.x),(24,HB.x),(24,HB.x),(23,LI.x)]) (.and Vw (.and jr (.and V7 (.and Px (.and WL (.and WL (.and aC (.and WL (.and WL (.and WL (.and aC .none)))))))))))
end Go.Proofs.YtffakkimlookoaaGreat.fnSnapTorn
