/-
  The program's WorldNew returns what the reference's returns, for all arguments.
-/
import Derived.Test.YtifcpnfmfagidaaGreatRows
import Derived.Test.YtifcpnfmfagidaaGreatKC
import Derived.Test.YtifcpnfmfagidaaGreatLvE
import Derived.Test.YtifcpnfmfagidaaGreatPD
import Derived.WalkKit
import Derived.OpenShut
import Derived.JoinedCond
namespace Go.Proofs.YtifcpnfmfagidaaGreat.fnExactWorldNew
open Go Lv Lv.P Go.ChangeShapes Go.WideShapes Go.ChangeAt Go.RowKit

theorem own : ownKnob Tryz.prog.godebug = none := by kernel_rfl
theorem laidOut : laidOutB Tryz.prog = true := by kernel_rfl
set_option maxRecDepth 100000
abbrev M (n : Nat) (g : GF) : Prop := Mt (fun _ _ _ => False) Tryz.prog n g.x
theorem mt_xa : M 40 gf_xa := Mt.by Tryz.func40 (by kernel_rfl) (l := []) (by kernel_rfl) .none
theorem mt_xb : M 19 gf_xb := Mt.by Tryz.func19 (by kernel_rfl) (l := [(40, gf_xa.x)]) (by kernel_rfl) (.and mt_xa .none)
theorem mt_xc : M 48 gf_xc := Mt.by Tryz.func48 (by kernel_rfl) (l := []) (by kernel_rfl) .none
theorem mt_xd : M 21 gf_xd := Mt.by Tryz.func21 (by kernel_rfl) (l := [(48, gf_xc.x)]) (by kernel_rfl) (.and mt_xc .none)
theorem mt_xe : M 42 gf_xe := Mt.by Tryz.func42 (by kernel_rfl) (l := []) (by kernel_rfl) .none
theorem mt_xf : M 86 gf_xf := Mt.by Tryz.func86 (by kernel_rfl) (l := [(42, gf_xe.x), (42, gf_xe.x), (42, gf_xe.x), (42, gf_xe.x), (42, gf_xe.x), (42, gf_xe.x), (42, gf_xe.x), (42, gf_xe.x), (42, gf_xe.x), (42, gf_xe.x)]) (by kernel_rfl) (.and mt_xe (.and mt_xe (.and mt_xe (.and mt_xe (.and mt_xe (.and mt_xe (.and mt_xe (.and mt_xe (.and mt_xe (.and mt_xe .none))))))))))
theorem mt_xdo : M 104 gf_xdo := Mt.by Tryz.func104 (by kernel_rfl) (l := []) (by kernel_rfl) .none
theorem mt_xk : M 166 gf_xk := Mt.by Tryz.func166 (by kernel_rfl) (l := [(42, gf_xe.x), (42, gf_xe.x), (42, gf_xe.x), (42, gf_xe.x), (42, gf_xe.x)]) (by kernel_rfl) (.and mt_xe (.and mt_xe (.and mt_xe (.and mt_xe (.and mt_xe .none)))))
theorem mt_xdp : M 156 gf_xdp := Mt.by Tryz.func156 (by kernel_rfl) (l := [(166, gf_xk.x)]) (by kernel_rfl) (.and mt_xk .none)
theorem mt_xdq : M 157 gf_xdq := Mt.by Tryz.func157 (by kernel_rfl) (l := []) (by kernel_rfl) .none
theorem mt_xdr : M 105 gf_xdr := Mt.by Tryz.func105 (by kernel_rfl) (l := [(156, gf_xdp.x), (157, gf_xdq.x)]) (by kernel_rfl) (.and mt_xdp (.and mt_xdq .none))
theorem mt_xds : M 60 gf_xds := Mt.by Tryz.func60 (by kernel_rfl) (l := [(86, gf_xf.x), (104, gf_xdo.x), (105, gf_xdr.x)]) (by kernel_rfl) (.and mt_xf (.and mt_xdo (.and mt_xdr .none)))
theorem mt_xg : M 130 gf_xg := Mt.by Tryz.func130 (by kernel_rfl) (l := [(86, gf_xf.x), (42, gf_xe.x), (42, gf_xe.x), (42, gf_xe.x), (42, gf_xe.x), (42, gf_xe.x), (42, gf_xe.x), (42, gf_xe.x), (42, gf_xe.x), (42, gf_xe.x), (42, gf_xe.x), (42, gf_xe.x)]) (by kernel_rfl) (.and mt_xf (.and mt_xe (.and mt_xe (.and mt_xe (.and mt_xe (.and mt_xe (.and mt_xe (.and mt_xe (.and mt_xe (.and mt_xe (.and mt_xe (.and mt_xe .none))))))))))))
theorem mt_xh : M 87 gf_xh := Mt.by Tryz.func87 (by kernel_rfl) (l := [(130, gf_xg.x)]) (by kernel_rfl) (.and mt_xg .none)
theorem mt_xi : M 131 gf_xi := Mt.by Tryz.func131 (by kernel_rfl) (l := []) (by kernel_rfl) .none
theorem mt_xj : M 88 gf_xj := Mt.by Tryz.func88 (by kernel_rfl) (l := [(42, gf_xe.x), (131, gf_xi.x), (42, gf_xe.x)]) (by kernel_rfl) (.and mt_xe (.and mt_xi (.and mt_xe .none)))
theorem mt_xl : M 192 gf_xl := Mt.by Tryz.func192 (by kernel_rfl) (l := []) (by kernel_rfl) .none
theorem mt_xm : M 193 gf_xm := Mt.by Tryz.func193 (by kernel_rfl) (l := []) (by kernel_rfl) .none
theorem mt_xn : M 167 gf_xn := Mt.by Tryz.func167 (by kernel_rfl) (l := [(42, gf_xe.x), (42, gf_xe.x), (42, gf_xe.x), (42, gf_xe.x), (192, gf_xl.x), (193, gf_xm.x)]) (by kernel_rfl) (.and mt_xe (.and mt_xe (.and mt_xe (.and mt_xe (.and mt_xl (.and mt_xm .none))))))
theorem mt_xo : M 171 gf_xo := Mt.by Tryz.func171 (by kernel_rfl) (l := []) (by kernel_rfl) .none
theorem mt_xp : M 194 gf_xp := Mt.by Tryz.func194 (by kernel_rfl) (l := []) (by kernel_rfl) .none
theorem mt_xq : M 168 gf_xq := Mt.by Tryz.func168 (by kernel_rfl) (l := [(171, gf_xo.x), (42, gf_xe.x), (42, gf_xe.x), (194, gf_xp.x)]) (by kernel_rfl) (.and mt_xo (.and mt_xe (.and mt_xe (.and mt_xp .none))))
theorem mt_xr : M 132 gf_xr := Mt.by Tryz.func132 (by kernel_rfl) (l := [(166, gf_xk.x), (167, gf_xn.x), (168, gf_xq.x)]) (by kernel_rfl) (.and mt_xk (.and mt_xn (.and mt_xq .none)))
theorem mt_xs : M 227 gf_xs := Mt.by Tryz.func227 (by kernel_rfl) (l := []) (by kernel_rfl) .none
theorem mt_xt : M 207 gf_xt := Mt.by Tryz.func207 (by kernel_rfl) (l := [(227, gf_xs.x)]) (by kernel_rfl) (.and mt_xs .none)
theorem mt_xu : M 195 gf_xu := Mt.by Tryz.func195 (by kernel_rfl) (l := [(130, gf_xg.x), (207, gf_xt.x)]) (by kernel_rfl) (.and mt_xg (.and mt_xt .none))
theorem mt_xv : M 169 gf_xv := Mt.by Tryz.func169 (by kernel_rfl) (l := [(195, gf_xu.x)]) (by kernel_rfl) (.and mt_xu .none)
theorem mt_xw : M 187 gf_xw := Mt.by Tryz.func187 (by kernel_rfl) (l := []) (by kernel_rfl) .none
theorem mt_xx : M 170 gf_xx := Mt.by Tryz.func170 (by kernel_rfl) (l := [(192, gf_xl.x), (187, gf_xw.x), (187, gf_xw.x)]) (by kernel_rfl) (.and mt_xl (.and mt_xw (.and mt_xw .none)))
theorem mt_xy : M 134 gf_xy := Mt.by Tryz.func134 (by kernel_rfl) (l := [(169, gf_xv.x), (169, gf_xv.x), (170, gf_xx.x)]) (by kernel_rfl) (.and mt_xv (.and mt_xv (.and mt_xx .none)))
theorem mt_xz : M 133 gf_xz := Mt.by Tryz.func133 (by kernel_rfl) (l := []) (by kernel_rfl) .none
theorem mt_x0 : M 172 gf_x0 := Mt.by Tryz.func172 (by kernel_rfl) (l := [(194, gf_xp.x)]) (by kernel_rfl) (.and mt_xp .none)
theorem mt_x1 : M 136 gf_x1 := Mt.by Tryz.func136 (by kernel_rfl) (l := [(168, gf_xq.x), (171, gf_xo.x), (172, gf_x0.x)]) (by kernel_rfl) (.and mt_xq (.and mt_xo (.and mt_x0 .none)))
theorem mt_x2 : M 137 gf_x2 := Mt.by Tryz.func137 (by kernel_rfl) (l := [(172, gf_x0.x)]) (by kernel_rfl) (.and mt_x0 .none)
theorem mt_x3 : M 135 gf_x3 := Mt.by Tryz.func135 (by kernel_rfl) (l := []) (by kernel_rfl) .none
theorem mt_x4 : M 138 gf_x4 := Mt.by Tryz.func138 (by kernel_rfl) (l := [(42, gf_xe.x)]) (by kernel_rfl) (.and mt_xe .none)
theorem mt_x5 : M 139 gf_x5 := Mt.by Tryz.func139 (by kernel_rfl) (l := [(42, gf_xe.x)]) (by kernel_rfl) (.and mt_xe .none)
theorem mt_x6 : M 89 gf_x6 := Mt.by Tryz.func89 (by kernel_rfl) (l := [(132, gf_xr.x), (134, gf_xy.x), (133, gf_xz.x), (136, gf_x1.x), (137, gf_x2.x), (135, gf_x3.x), (138, gf_x4.x), (139, gf_x5.x)]) (by kernel_rfl) (.and mt_xr (.and mt_xy (.and mt_xz (.and mt_x1 (.and mt_x2 (.and mt_x3 (.and mt_x4 (.and mt_x5 .none))))))))
theorem mt_x7 : M 90 gf_x7 := Mt.by Tryz.func90 (by kernel_rfl) (l := []) (by kernel_rfl) .none
theorem mt_x8 : M 41 gf_x8 := Mt.by Tryz.func41 (by kernel_rfl) (l := [(86, gf_xf.x), (42, gf_xe.x), (42, gf_xe.x), (87, gf_xh.x), (88, gf_xj.x), (89, gf_x6.x), (90, gf_x7.x)]) (by kernel_rfl) (.and mt_xf (.and mt_xe (.and mt_xe (.and mt_xh (.and mt_xj (.and mt_x6 (.and mt_x7 .none)))))))
theorem mt_xcz : M 55 gf_xcz := Mt.by Tryz.func55 (by kernel_rfl) (l := [(86, gf_xf.x)]) (by kernel_rfl) (.and mt_xf .none)
theorem mt_xc0 : M 13 gf_xc0 := Mt.by Tryz.func13 (by kernel_rfl) (l := [(41, gf_x8.x), (55, gf_xcz.x)]) (by kernel_rfl) (.and mt_x8 (.and mt_xcz .none))
theorem mt_xc1 : M 91 gf_xc1 := Mt.by Tryz.func91 (by kernel_rfl) (l := [(42, gf_xe.x)]) (by kernel_rfl) (.and mt_xe .none)
theorem mt_xc2 : M 43 gf_xc2 := Mt.by Tryz.func43 (by kernel_rfl) (l := [(91, gf_xc1.x)]) (by kernel_rfl) (.and mt_xc1 .none)
theorem mt_xc3 : M 45 gf_xc3 := Mt.by Tryz.func45 (by kernel_rfl) (l := []) (by kernel_rfl) .none
theorem mt_xc4 : M 44 gf_xc4 := Mt.by Tryz.func44 (by kernel_rfl) (l := []) (by kernel_rfl) .none
theorem mt_xc5 : M 9 gf_xc5 := Mt.by Tryz.func9 (by kernel_rfl) (l := [(41, gf_x8.x), (42, gf_xe.x), (13, gf_xc0.x), (43, gf_xc2.x), (45, gf_xc3.x), (44, gf_xc4.x)]) (by kernel_rfl) (.and mt_x8 (.and mt_xe (.and mt_xc0 (.and mt_xc2 (.and mt_xc3 (.and mt_xc4 .none))))))
theorem mt_xdt : M 20 gf_xdt := Mt.by Tryz.func20 (by kernel_rfl) (l := [(60, gf_xds.x), (9, gf_xc5.x)]) (by kernel_rfl) (.and mt_xds (.and mt_xc5 .none))
theorem mt_xed : M 28 gf_xed := Mt.by Tryz.func28 (by kernel_rfl) (l := [(20, gf_xdt.x)]) (by kernel_rfl) (.and mt_xdt .none)
theorem mt_x9 : M 49 gf_x9 := Mt.by Tryz.func49 (by kernel_rfl) (l := []) (by kernel_rfl) .none
theorem mt_xba : M 96 gf_xba := Mt.by Tryz.func96 (by kernel_rfl) (l := [(49, gf_x9.x), (49, gf_x9.x), (49, gf_x9.x), (49, gf_x9.x), (49, gf_x9.x), (49, gf_x9.x), (49, gf_x9.x), (49, gf_x9.x), (49, gf_x9.x), (49, gf_x9.x)]) (by kernel_rfl) (.and mt_x9 (.and mt_x9 (.and mt_x9 (.and mt_x9 (.and mt_x9 (.and mt_x9 (.and mt_x9 (.and mt_x9 (.and mt_x9 (.and mt_x9 .none))))))))))
theorem mt_xdu : M 158 gf_xdu := Mt.by Tryz.func158 (by kernel_rfl) (l := []) (by kernel_rfl) .none
theorem mt_xdv : M 106 gf_xdv := Mt.by Tryz.func106 (by kernel_rfl) (l := [(158, gf_xdu.x)]) (by kernel_rfl) (.and mt_xdu .none)
theorem mt_xbe : M 177 gf_xbe := Mt.by Tryz.func177 (by kernel_rfl) (l := [(49, gf_x9.x), (49, gf_x9.x), (49, gf_x9.x), (49, gf_x9.x), (49, gf_x9.x)]) (by kernel_rfl) (.and mt_x9 (.and mt_x9 (.and mt_x9 (.and mt_x9 (.and mt_x9 .none)))))
theorem mt_xdw : M 159 gf_xdw := Mt.by Tryz.func159 (by kernel_rfl) (l := [(177, gf_xbe.x)]) (by kernel_rfl) (.and mt_xbe .none)
theorem mt_xdx : M 160 gf_xdx := Mt.by Tryz.func160 (by kernel_rfl) (l := []) (by kernel_rfl) .none
theorem mt_xdy : M 107 gf_xdy := Mt.by Tryz.func107 (by kernel_rfl) (l := [(159, gf_xdw.x), (160, gf_xdx.x)]) (by kernel_rfl) (.and mt_xdw (.and mt_xdx .none))
theorem mt_xdz : M 61 gf_xdz := Mt.by Tryz.func61 (by kernel_rfl) (l := [(96, gf_xba.x), (106, gf_xdv.x), (107, gf_xdy.x)]) (by kernel_rfl) (.and mt_xba (.and mt_xdv (.and mt_xdy .none)))
theorem mt_xbb : M 100 gf_xbb := Mt.by Tryz.func100 (by kernel_rfl) (l := [(49, gf_x9.x)]) (by kernel_rfl) (.and mt_x9 .none)
theorem mt_xbc : M 97 gf_xbc := Mt.by Tryz.func97 (by kernel_rfl) (l := [(96, gf_xba.x), (49, gf_x9.x), (49, gf_x9.x), (100, gf_xbb.x), (49, gf_x9.x), (49, gf_x9.x), (100, gf_xbb.x), (49, gf_x9.x), (49, gf_x9.x), (100, gf_xbb.x), (49, gf_x9.x), (49, gf_x9.x)]) (by kernel_rfl) (.and mt_xba (.and mt_x9 (.and mt_x9 (.and mt_xbb (.and mt_x9 (.and mt_x9 (.and mt_xbb (.and mt_x9 (.and mt_x9 (.and mt_xbb (.and mt_x9 (.and mt_x9 .none))))))))))))
theorem mt_xbd : M 98 gf_xbd := Mt.by Tryz.func98 (by kernel_rfl) (l := []) (by kernel_rfl) .none
theorem mt_xbf : M 215 gf_xbf := Mt.by Tryz.func215 (by kernel_rfl) (l := []) (by kernel_rfl) .none
theorem mt_xbg : M 203 gf_xbg := Mt.by Tryz.func203 (by kernel_rfl) (l := [(215, gf_xbf.x), (215, gf_xbf.x)]) (by kernel_rfl) (.and mt_xbf (.and mt_xbf .none))
theorem mt_xbh : M 182 gf_xbh := Mt.by Tryz.func182 (by kernel_rfl) (l := [(203, gf_xbg.x), (203, gf_xbg.x)]) (by kernel_rfl) (.and mt_xbg (.and mt_xbg .none))
theorem mt_xbi : M 198 gf_xbi := Mt.by Tryz.func198 (by kernel_rfl) (l := [(182, gf_xbh.x)]) (by kernel_rfl) (.and mt_xbh .none)
theorem mt_xbj : M 211 gf_xbj := Mt.by Tryz.func211 (by kernel_rfl) (l := []) (by kernel_rfl) .none
theorem mt_xbk : M 210 gf_xbk := Mt.by Tryz.func210 (by kernel_rfl) (l := []) (by kernel_rfl) .none
theorem mt_xbl : M 199 gf_xbl := Mt.by Tryz.func199 (by kernel_rfl) (l := [(211, gf_xbj.x), (210, gf_xbk.x)]) (by kernel_rfl) (.and mt_xbj (.and mt_xbk .none))
theorem mt_xbm : M 178 gf_xbm := Mt.by Tryz.func178 (by kernel_rfl) (l := [(198, gf_xbi.x), (199, gf_xbl.x), (100, gf_xbb.x), (49, gf_x9.x), (49, gf_x9.x), (49, gf_x9.x)]) (by kernel_rfl) (.and mt_xbi (.and mt_xbl (.and mt_xbb (.and mt_x9 (.and mt_x9 (.and mt_x9 .none))))))
theorem mt_xbn : M 200 gf_xbn := Mt.by Tryz.func200 (by kernel_rfl) (l := [(49, gf_x9.x), (49, gf_x9.x)]) (by kernel_rfl) (.and mt_x9 (.and mt_x9 .none))
theorem mt_xbo : M 184 gf_xbo := Mt.by Tryz.func184 (by kernel_rfl) (l := [(203, gf_xbg.x), (203, gf_xbg.x)]) (by kernel_rfl) (.and mt_xbg (.and mt_xbg .none))
theorem mt_xbp : M 179 gf_xbp := Mt.by Tryz.func179 (by kernel_rfl) (l := [(200, gf_xbn.x), (184, gf_xbo.x)]) (by kernel_rfl) (.and mt_xbn (.and mt_xbo .none))
theorem mt_xbq : M 146 gf_xbq := Mt.by Tryz.func146 (by kernel_rfl) (l := [(177, gf_xbe.x), (178, gf_xbm.x), (179, gf_xbp.x)]) (by kernel_rfl) (.and mt_xbe (.and mt_xbm (.and mt_xbp .none)))
theorem mt_xbr : M 212 gf_xbr := Mt.by Tryz.func212 (by kernel_rfl) (l := [(96, gf_xba.x), (100, gf_xbb.x)]) (by kernel_rfl) (.and mt_xba (.and mt_xbb .none))
theorem mt_xbs : M 201 gf_xbs := Mt.by Tryz.func201 (by kernel_rfl) (l := [(97, gf_xbc.x), (212, gf_xbr.x)]) (by kernel_rfl) (.and mt_xbc (.and mt_xbr .none))
theorem mt_xbt : M 180 gf_xbt := Mt.by Tryz.func180 (by kernel_rfl) (l := [(97, gf_xbc.x), (201, gf_xbs.x)]) (by kernel_rfl) (.and mt_xbc (.and mt_xbs .none))
theorem mt_xbu : M 213 gf_xbu := Mt.by Tryz.func213 (by kernel_rfl) (l := []) (by kernel_rfl) .none
theorem mt_xbv : M 202 gf_xbv := Mt.by Tryz.func202 (by kernel_rfl) (l := [(213, gf_xbu.x), (213, gf_xbu.x)]) (by kernel_rfl) (.and mt_xbu (.and mt_xbu .none))
theorem mt_xbw : M 181 gf_xbw := Mt.by Tryz.func181 (by kernel_rfl) (l := [(202, gf_xbv.x)]) (by kernel_rfl) (.and mt_xbv .none)
theorem mt_xbx : M 148 gf_xbx := Mt.by Tryz.func148 (by kernel_rfl) (l := [(180, gf_xbt.x), (181, gf_xbw.x), (182, gf_xbh.x)]) (by kernel_rfl) (.and mt_xbt (.and mt_xbw (.and mt_xbh .none)))
theorem mt_xby : M 147 gf_xby := Mt.by Tryz.func147 (by kernel_rfl) (l := []) (by kernel_rfl) .none
theorem mt_xbz : M 225 gf_xbz := Mt.by Tryz.func225 (by kernel_rfl) (l := []) (by kernel_rfl) .none
theorem mt_xb0 : M 205 gf_xb0 := Mt.by Tryz.func205 (by kernel_rfl) (l := [(225, gf_xbz.x)]) (by kernel_rfl) (.and mt_xbz .none)
theorem mt_xb1 : M 216 gf_xb1 := Mt.by Tryz.func216 (by kernel_rfl) (l := []) (by kernel_rfl) .none
theorem mt_xb2 : M 204 gf_xb2 := Mt.by Tryz.func204 (by kernel_rfl) (l := [(216, gf_xb1.x)]) (by kernel_rfl) (.and mt_xb1 .none)
theorem mt_xb3 : M 183 gf_xb3 := Mt.by Tryz.func183 (by kernel_rfl) (l := [(205, gf_xb0.x), (204, gf_xb2.x)]) (by kernel_rfl) (.and mt_xb0 (.and mt_xb2 .none))
theorem mt_xb4 : M 150 gf_xb4 := Mt.by Tryz.func150 (by kernel_rfl) (l := [(179, gf_xbp.x), (183, gf_xb3.x), (184, gf_xbo.x)]) (by kernel_rfl) (.and mt_xbp (.and mt_xb3 (.and mt_xbo .none)))
theorem mt_xb5 : M 206 gf_xb5 := Mt.by Tryz.func206 (by kernel_rfl) (l := [(216, gf_xb1.x), (216, gf_xb1.x)]) (by kernel_rfl) (.and mt_xb1 (.and mt_xb1 .none))
theorem mt_xb6 : M 185 gf_xb6 := Mt.by Tryz.func185 (by kernel_rfl) (l := [(206, gf_xb5.x)]) (by kernel_rfl) (.and mt_xb5 .none)
theorem mt_xb7 : M 151 gf_xb7 := Mt.by Tryz.func151 (by kernel_rfl) (l := [(185, gf_xb6.x), (184, gf_xbo.x)]) (by kernel_rfl) (.and mt_xb6 (.and mt_xbo .none))
theorem mt_xb8 : M 149 gf_xb8 := Mt.by Tryz.func149 (by kernel_rfl) (l := []) (by kernel_rfl) .none
theorem mt_xb9 : M 152 gf_xb9 := Mt.by Tryz.func152 (by kernel_rfl) (l := [(49, gf_x9.x)]) (by kernel_rfl) (.and mt_x9 .none)
theorem mt_xca : M 153 gf_xca := Mt.by Tryz.func153 (by kernel_rfl) (l := [(49, gf_x9.x)]) (by kernel_rfl) (.and mt_x9 .none)
theorem mt_xcb : M 99 gf_xcb := Mt.by Tryz.func99 (by kernel_rfl) (l := [(146, gf_xbq.x), (148, gf_xbx.x), (147, gf_xby.x), (150, gf_xb4.x), (151, gf_xb7.x), (149, gf_xb8.x), (152, gf_xb9.x), (153, gf_xca.x)]) (by kernel_rfl) (.and mt_xbq (.and mt_xbx (.and mt_xby (.and mt_xb4 (.and mt_xb7 (.and mt_xb8 (.and mt_xb9 (.and mt_xca .none))))))))
theorem mt_xcc : M 154 gf_xcc := Mt.by Tryz.func154 (by kernel_rfl) (l := []) (by kernel_rfl) .none
theorem mt_xcd : M 101 gf_xcd := Mt.by Tryz.func101 (by kernel_rfl) (l := [(154, gf_xcc.x)]) (by kernel_rfl) (.and mt_xcc .none)
theorem mt_xce : M 56 gf_xce := Mt.by Tryz.func56 (by kernel_rfl) (l := [(96, gf_xba.x), (49, gf_x9.x), (49, gf_x9.x), (97, gf_xbc.x), (98, gf_xbd.x), (99, gf_xcb.x), (100, gf_xbb.x), (101, gf_xcd.x), (49, gf_x9.x)]) (by kernel_rfl) (.and mt_xba (.and mt_x9 (.and mt_x9 (.and mt_xbc (.and mt_xbd (.and mt_xcb (.and mt_xbb (.and mt_xcd (.and mt_x9 .none)))))))))
theorem mt_xc6 : M 57 gf_xc6 := Mt.by Tryz.func57 (by kernel_rfl) (l := [(96, gf_xba.x)]) (by kernel_rfl) (.and mt_xba .none)
theorem mt_xc7 : M 14 gf_xc7 := Mt.by Tryz.func14 (by kernel_rfl) (l := [(56, gf_xce.x), (57, gf_xc6.x)]) (by kernel_rfl) (.and mt_xce (.and mt_xc6 .none))
theorem mt_xc8 : M 50 gf_xc8 := Mt.by Tryz.func50 (by kernel_rfl) (l := [(49, gf_x9.x)]) (by kernel_rfl) (.and mt_x9 .none)
theorem mt_xc9 : M 51 gf_xc9 := Mt.by Tryz.func51 (by kernel_rfl) (l := [(50, gf_xc8.x)]) (by kernel_rfl) (.and mt_xc8 .none)
theorem mt_xda : M 52 gf_xda := Mt.by Tryz.func52 (by kernel_rfl) (l := []) (by kernel_rfl) .none
theorem mt_xdb : M 11 gf_xdb := Mt.by Tryz.func11 (by kernel_rfl) (l := [(14, gf_xc7.x), (49, gf_x9.x), (50, gf_xc8.x), (51, gf_xc9.x), (52, gf_xda.x)]) (by kernel_rfl) (.and mt_xc7 (.and mt_x9 (.and mt_xc8 (.and mt_xc9 (.and mt_xda .none)))))
theorem mt_xdc : M 14 gf_xdc := Mt.by Tryz.func14 (by kernel_rfl) (l := [(56, gf_xce.x), (57, gf_xc6.x)]) (by kernel_rfl) (.and mt_xce (.and mt_xc6 .none))
theorem mt_xdd : M 11 gf_xdd := Mt.by Tryz.func11 (by kernel_rfl) (l := [(14, gf_xdc.x), (49, gf_x9.x), (50, gf_xc8.x), (51, gf_xc9.x), (52, gf_xda.x)]) (by kernel_rfl) (.and mt_xdc (.and mt_x9 (.and mt_xc8 (.and mt_xc9 (.and mt_xda .none)))))
theorem mt_xde : M 11 gf_xde := mt_xdb
theorem mt_xcf : M 108 gf_xcf := Mt.by Tryz.func108 (by kernel_rfl) (l := [(49, gf_x9.x)]) (by kernel_rfl) (.and mt_x9 .none)
theorem mt_xd0 : M 62 gf_xd0 := Mt.by Tryz.func62 (by kernel_rfl) (l := [(108, gf_xcf.x)]) (by kernel_rfl) (.and mt_xcf .none)
theorem mt_xd1 : M 22 gf_xd1 := Mt.by Tryz.func22 (by kernel_rfl) (l := [(61, gf_xdz.x), (11, gf_xde.x), (62, gf_xd0.x)]) (by kernel_rfl) (.and mt_xdz (.and mt_xde (.and mt_xd0 .none)))
theorem mt_xee : M 29 gf_xee := Mt.by Tryz.func29 (by kernel_rfl) (l := [(22, gf_xd1.x)]) (by kernel_rfl) (.and mt_xd1 .none)
theorem mt_xcg : M 15 gf_xcg := Mt.by Tryz.func15 (by kernel_rfl) (l := []) (by kernel_rfl) .none
theorem mt_xch : M 24 gf_xch := Mt.by Tryz.func24 (by kernel_rfl) (l := [(15, gf_xcg.x)]) (by kernel_rfl) (.and mt_xcg .none)
theorem mt_xci : M 94 gf_xci := Mt.by Tryz.func94 (by kernel_rfl) (l := []) (by kernel_rfl) .none
theorem mt_xcj : M 53 gf_xcj := Mt.by Tryz.func53 (by kernel_rfl) (l := [(94, gf_xci.x)]) (by kernel_rfl) (.and mt_xci .none)
theorem mt_xck : M 143 gf_xck := Mt.by Tryz.func143 (by kernel_rfl) (l := []) (by kernel_rfl) .none
theorem mt_xcl : M 175 gf_xcl := Mt.by Tryz.func175 (by kernel_rfl) (l := []) (by kernel_rfl) .none
theorem mt_xcm : M 144 gf_xcm := Mt.by Tryz.func144 (by kernel_rfl) (l := [(175, gf_xcl.x)]) (by kernel_rfl) (.and mt_xcl .none)
theorem mt_xcn : M 209 gf_xcn := Mt.by Tryz.func209 (by kernel_rfl) (l := []) (by kernel_rfl) .none
theorem mt_xco : M 197 gf_xco := Mt.by Tryz.func197 (by kernel_rfl) (l := [(209, gf_xcn.x)]) (by kernel_rfl) (.and mt_xcn .none)
theorem mt_xcp : M 176 gf_xcp := Mt.by Tryz.func176 (by kernel_rfl) (l := [(197, gf_xco.x)]) (by kernel_rfl) (.and mt_xco .none)
theorem mt_xcq : M 145 gf_xcq := Mt.by Tryz.func145 (by kernel_rfl) (l := [(176, gf_xcp.x)]) (by kernel_rfl) (.and mt_xcp .none)
theorem mt_xcr : M 95 gf_xcr := Mt.by Tryz.func95 (by kernel_rfl) (l := [(143, gf_xck.x), (144, gf_xcm.x), (145, gf_xcq.x)]) (by kernel_rfl) (.and mt_xck (.and mt_xcm (.and mt_xcq .none)))
theorem mt_xcs : M 54 gf_xcs := Mt.by Tryz.func54 (by kernel_rfl) (l := [(95, gf_xcr.x)]) (by kernel_rfl) (.and mt_xcr .none)
theorem mt_xct : M 12 gf_xct := Mt.by Tryz.func12 (by kernel_rfl) (l := [(24, gf_xch.x), (53, gf_xcj.x), (54, gf_xcs.x), (15, gf_xcg.x), (15, gf_xcg.x)]) (by kernel_rfl) (.and mt_xch (.and mt_xcj (.and mt_xcs (.and mt_xcg (.and mt_xcg .none)))))
theorem mt_xcu : M 109 gf_xcu := Mt.by Tryz.func109 (by kernel_rfl) (l := []) (by kernel_rfl) .none
theorem mt_xcv : M 63 gf_xcv := Mt.by Tryz.func63 (by kernel_rfl) (l := [(109, gf_xcu.x), (109, gf_xcu.x), (109, gf_xcu.x)]) (by kernel_rfl) (.and mt_xcu (.and mt_xcu (.and mt_xcu .none)))
theorem mt_xcw : M 110 gf_xcw := Mt.by Tryz.func110 (by kernel_rfl) (l := []) (by kernel_rfl) .none
theorem mt_xcx : M 64 gf_xcx := Mt.by Tryz.func64 (by kernel_rfl) (l := [(110, gf_xcw.x)]) (by kernel_rfl) (.and mt_xcw .none)
theorem mt_xcy : M 23 gf_xcy := Mt.by Tryz.func23 (by kernel_rfl) (l := [(12, gf_xct.x), (63, gf_xcv.x), (64, gf_xcx.x)]) (by kernel_rfl) (.and mt_xct (.and mt_xcv (.and mt_xcx .none)))
theorem mt_xef : M 114 gf_xef := Mt.by Tryz.func114 (by kernel_rfl) (l := [(15, gf_xcg.x)]) (by kernel_rfl) (.and mt_xcg .none)
theorem mt_xeg : M 68 gf_xeg := Mt.by Tryz.func68 (by kernel_rfl) (l := [(114, gf_xef.x)]) (by kernel_rfl) (.and mt_xef .none)
theorem mt_xeh : M 30 gf_xeh := Mt.by Tryz.func30 (by kernel_rfl) (l := [(23, gf_xcy.x), (64, gf_xcx.x), (68, gf_xeg.x)]) (by kernel_rfl) (.and mt_xcy (.and mt_xcx (.and mt_xeg .none)))
theorem mt_xdf : M 17 gf_xdf := Mt.by Tryz.func17 (by kernel_rfl) (l := []) (by kernel_rfl) .none
theorem mt_xdg : M 25 gf_xdg := Mt.by Tryz.func25 (by kernel_rfl) (l := [(17, gf_xdf.x)]) (by kernel_rfl) (.and mt_xdf .none)
theorem mt_xdh : M 58 gf_xdh := Mt.by Tryz.func58 (by kernel_rfl) (l := []) (by kernel_rfl) .none
theorem mt_xdi : M 102 gf_xdi := Mt.by Tryz.func102 (by kernel_rfl) (l := []) (by kernel_rfl) .none
theorem mt_xdj : M 155 gf_xdj := Mt.by Tryz.func155 (by kernel_rfl) (l := []) (by kernel_rfl) .none
theorem mt_xdk : M 103 gf_xdk := Mt.by Tryz.func103 (by kernel_rfl) (l := [(155, gf_xdj.x)]) (by kernel_rfl) (.and mt_xdj .none)
theorem mt_xdl : M 59 gf_xdl := Mt.by Tryz.func59 (by kernel_rfl) (l := [(102, gf_xdi.x), (103, gf_xdk.x)]) (by kernel_rfl) (.and mt_xdi (.and mt_xdk .none))
theorem mt_xdm : M 16 gf_xdm := Mt.by Tryz.func16 (by kernel_rfl) (l := [(25, gf_xdg.x), (58, gf_xdh.x), (59, gf_xdl.x), (17, gf_xdf.x), (17, gf_xdf.x)]) (by kernel_rfl) (.and mt_xdg (.and mt_xdh (.and mt_xdl (.and mt_xdf (.and mt_xdf .none)))))
theorem mt_xd2 : M 65 gf_xd2 := Mt.by Tryz.func65 (by kernel_rfl) (l := []) (by kernel_rfl) .none
theorem mt_xd3 : M 26 gf_xd3 := Mt.by Tryz.func26 (by kernel_rfl) (l := [(16, gf_xdm.x), (65, gf_xd2.x)]) (by kernel_rfl) (.and mt_xdm (.and mt_xd2 .none))
theorem mt_xei : M 69 gf_xei := Mt.by Tryz.func69 (by kernel_rfl) (l := [(17, gf_xdf.x)]) (by kernel_rfl) (.and mt_xdf .none)
theorem mt_xej : M 31 gf_xej := Mt.by Tryz.func31 (by kernel_rfl) (l := [(26, gf_xd3.x), (65, gf_xd2.x), (69, gf_xei.x)]) (by kernel_rfl) (.and mt_xd3 (.and mt_xd2 (.and mt_xei .none)))
theorem mt_xdn : M 18 gf_xdn := Mt.by Tryz.func18 (by kernel_rfl) (l := []) (by kernel_rfl) .none
theorem mt_xd4 : M 111 gf_xd4 := Mt.by Tryz.func111 (by kernel_rfl) (l := [(18, gf_xdn.x)]) (by kernel_rfl) (.and mt_xdn .none)
theorem mt_xd5 : M 112 gf_xd5 := Mt.by Tryz.func112 (by kernel_rfl) (l := []) (by kernel_rfl) .none
theorem mt_xd6 : M 161 gf_xd6 := Mt.by Tryz.func161 (by kernel_rfl) (l := []) (by kernel_rfl) .none
theorem mt_xd7 : M 186 gf_xd7 := Mt.by Tryz.func186 (by kernel_rfl) (l := []) (by kernel_rfl) .none
theorem mt_xd8 : M 162 gf_xd8 := Mt.by Tryz.func162 (by kernel_rfl) (l := [(186, gf_xd7.x)]) (by kernel_rfl) (.and mt_xd7 .none)
theorem mt_xd9 : M 113 gf_xd9 := Mt.by Tryz.func113 (by kernel_rfl) (l := [(161, gf_xd6.x), (162, gf_xd8.x)]) (by kernel_rfl) (.and mt_xd6 (.and mt_xd8 .none))
theorem mt_xea : M 66 gf_xea := Mt.by Tryz.func66 (by kernel_rfl) (l := [(111, gf_xd4.x), (112, gf_xd5.x), (113, gf_xd9.x), (18, gf_xdn.x), (18, gf_xdn.x)]) (by kernel_rfl) (.and mt_xd4 (.and mt_xd5 (.and mt_xd9 (.and mt_xdn (.and mt_xdn .none)))))
theorem mt_xeb : M 67 gf_xeb := Mt.by Tryz.func67 (by kernel_rfl) (l := []) (by kernel_rfl) .none
theorem mt_xec : M 27 gf_xec := Mt.by Tryz.func27 (by kernel_rfl) (l := [(66, gf_xea.x), (67, gf_xeb.x)]) (by kernel_rfl) (.and mt_xea (.and mt_xeb .none))
theorem mt_xek : M 70 gf_xek := Mt.by Tryz.func70 (by kernel_rfl) (l := [(18, gf_xdn.x)]) (by kernel_rfl) (.and mt_xdn .none)
theorem mt_xel : M 32 gf_xel := Mt.by Tryz.func32 (by kernel_rfl) (l := [(27, gf_xec.x), (67, gf_xeb.x), (70, gf_xek.x)]) (by kernel_rfl) (.and mt_xec (.and mt_xeb (.and mt_xek .none)))
theorem mt_laws_FnExactWorldNew : M 6 gf_laws_FnExactWorldNew := Mt.by Tryz.func6 (by kernel_rfl) (l := [(19, gf_xb.x), (21, gf_xd.x), (28, gf_xed.x), (21, gf_xd.x), (29, gf_xee.x), (30, gf_xeh.x), (21, gf_xd.x), (24, gf_xch.x), (25, gf_xdg.x), (30, gf_xeh.x), (31, gf_xej.x), (32, gf_xel.x), (21, gf_xd.x), (29, gf_xee.x), (30, gf_xeh.x), (32, gf_xel.x)]) (by kernel_rfl) (.and mt_xb (.and mt_xd (.and mt_xed (.and mt_xd (.and mt_xee (.and mt_xeh (.and mt_xd (.and mt_xch (.and mt_xdg (.and mt_xeh (.and mt_xej (.and mt_xel (.and mt_xd (.and mt_xee (.and mt_xeh (.and mt_xel .none))))))))))))))))
theorem runs_law {x0 : GRules} (h : d_laws_FnExactWorldNew x0 = some true) : Runs gf_laws_FnExactWorldNew.x [.v .agg (eGRules x0)] .one [.bool true] [] := gf_laws_FnExactWorldNew.ok (x0, ()) true h
section
variable {H : Type} {enc : TypeId × Value → H} {w : World} {base : Nat} {spare : Nat → Bool} {held : Bool}
theorem reads_t3 : Reads enc Tryz.prog w base spare held 3 (fun n : Int => [T.int .i64 n]) okI 1 := .int Tryz.underlying3 (by kernel_rfl)
theorem reads_t22 : Reads enc Tryz.prog w base spare held 22 (fun l : List Int => [T.sl 1 (l.map eN)]) (okL okI) 1 := .slice Tryz.underlying22 (by kernel_rfl) (by decide) reads_t3
theorem reads_t24 : Reads enc Tryz.prog w base spare held 24 eGRules okGRules 9 := (Reads.struct Tryz.underlying24 (by kernel_rfl) (.cons (by kernel_rfl) reads_t22 (.cons (by kernel_rfl) reads_t3 (.cons (by kernel_rfl) reads_t3 (.cons (by kernel_rfl) reads_t3 (.cons (by kernel_rfl) reads_t3 (.cons (by kernel_rfl) reads_t3 (.cons (by kernel_rfl) reads_t3 (.cons (by kernel_rfl) reads_t3 (.cons (by kernel_rfl) reads_t3 .nil)))))))))).map (fun x => ⟨x.1, x.2.1, x.2.2.1, x.2.2.2.1, x.2.2.2.2.1, x.2.2.2.2.2.1, x.2.2.2.2.2.2.1, x.2.2.2.2.2.2.2.1, x.2.2.2.2.2.2.2.2.1⟩) (fun _ => rfl) (fun _ h => h)
end

theorem contract (H : Type) (enc : TypeId × Value → H) (W : World) (base : Nat) (args : Array Value) (ds gs : List (DataW H)) (before : List MemPlace)
    (hval : ∀ (j : Nat) t v, Tryz.f6.params[j]? = some t → args[j]? = some v → Value.okWide Tryz.prog W .any base t v)
    (hW : DataW.Whole enc Tryz.prog Tryz.f6.params.toList Rows.fnExactWorldNewSpec.vars false W args.toList ds gs before) :
    Calls Tryz.prog 6 args W fun e W' => ∃ v, e = .returned v ∧ Rows.fnExactWorldNewSpec.post enc Tryz.prog Tryz.f6 false true false false W args v W' := by
  have hW' := hW
  obtain ⟨p, q, hA0, hV, rfl, hfz, hnd⟩ := hW
  have hA : DataW.TrodAll enc Tryz.prog W 0 (fun _ => true) true Tryz.f6.params.toList args.toList ds p := hA0
  obtain ⟨rfl, rfl⟩ := trodVars_none hV
  clear hA0
  simp only [List.append_nil] at hW'
  have hA1 := hA
  rw [Tryz.params6] at hA1 hval
  obtain ⟨v0, vs0, d0, ds0, p0, q0, hargs, rfl, rfl, h0, hA1⟩ := trodAll_cons hA1
  obtain ⟨rfl, rfl, rfl⟩ := trodAll_nil hA1
  obtain rfl : args = #[v0] := by cases args; simp_all
  obtain ⟨cs0, rfl, hs0⟩ := okWide_struct Tryz.underlying24 (hval 0 24 v0 rfl rfl)
  obtain ⟨x0, k0, e0⟩ := reads_t24.agg h0 hs0
  refine law_post (A := (fun _ _ _ => False)) prims_none laidOut (tb := 4) Tryz.underlying4 rfl (runs_law (Law_FnExactWorldNew k0)) mt_laws_FnExactWorldNew (gf_laws_FnExactWorldNew.ms.trans rfl) rfl ?_ hW' hA rfl (by rw [Tryz.params6]; exact of_decide_eq_true (by kernel_rfl)) rfl rfl rfl
  intro i V u hV hu
  match i, hV, hu with
  | 0, hV, hu => cases hV; cases hu; exact e0

set_option maxRecDepth 100000 in
theorem lifted (os : Os) (started : os.Started) (H : Type) (enc : TypeId × Value → H) :
    ReturnsInHanded {} Tryz.checked os 6 .any (Rows.fnExactWorldNewSpec.pre6 enc Tryz.prog Tryz.f6 Rows.fnExactWorldNewRow.domain false) (Rows.fnExactWorldNewSpec.post enc Tryz.prog Tryz.f6 false true false false) := by
  refine returnsInHanded_of_change (C := Tryz.checked) own started (by kernel_rfl) Tryz.func6
    (ChangeSpec.witness6 (enc := enc) (C := Tryz.checked) false ⟨#[], #[.agg #[.slice none 0 0, .int .i64 0, .int .i64 0, .int .i64 0, .int .i64 0, .int .i64 0, .int .i64 0, .int .i64 0, .int .i64 0]], []⟩ 8 (by kernel_rfl) (by kernel_rfl) (by kernel_rfl) (by kernel_rfl)) ?_
  intro W base args ds gs before hval hW _ _
  exact contract H enc W base args ds gs before hval hW

theorem holds : Rows.FnExactWorldNewSaid :=
  OpenClaim.holds_of_wide 6 Tryz.f6 rfl rfl rfl rfl rfl rfl rfl ⟨rfl, rfl, rfl, rfl, rfl⟩ rfl rfl rfl rfl rfl (by kernel_rfl) Tryz.func6 (by kernel_rfl)
    (of_decide_eq_true (by kernel_rfl)) (by unfold Func.isWrapper; first | (rw [if_pos (by decide +kernel)]; kernel_rfl) | (rw [if_neg (by decide +kernel)]; exact ⟨rfl, rfl⟩))
    (fun os started H enc _ => lifted os started H enc)
#print axioms holds
end Go.Proofs.YtifcpnfmfagidaaGreat.fnExactWorldNew
