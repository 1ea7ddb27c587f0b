/-
  The program's HouseNums returns what the reference's returns, for all arguments.
-/
import Derived.Test.YtifcpnfmfagidaaGreatRows
import Derived.Test.YtifcpnfmfagidaaGreatKD
import Derived.Test.YtifcpnfmfagidaaGreatLvE
import Derived.Test.YtifcpnfmfagidaaGreatPD
import Derived.WalkKit
import Derived.OpenShut
import Derived.JoinedCond
namespace Go.Proofs.YtifcpnfmfagidaaGreat.fnExactHouseNums
open Go Lv Lv.P Go.ChangeShapes Go.WideShapes Go.ChangeAt Go.RowKit

theorem own : ownKnob Tryz.prog.godebug = none := by kernel_rfl
theorem laidOut : laidOutB Tryz.prog = true := by kernel_rfl
set_option maxRecDepth 100000
theorem mt_xa : Mt (fun _ _ _ => False) Tryz.prog 40 gf_xa.x := .by Tryz.func40 (by kernel_rfl) (l := []) (by kernel_rfl) .none
theorem mt_xb : Mt (fun _ _ _ => False) Tryz.prog 19 gf_xb.x := .by Tryz.func19 (by kernel_rfl) (l := [(40, gf_xa.x)]) (by kernel_rfl) (.and mt_xa .none)
theorem mt_xc : Mt (fun _ _ _ => False) Tryz.prog 38 gf_xc.x := .by Tryz.func38 (by kernel_rfl) (l := []) (by kernel_rfl) .none
theorem mt_xd : Mt (fun _ _ _ => False) Tryz.prog 128 gf_xd.x := .by Tryz.func128 (by kernel_rfl) (l := []) (by kernel_rfl) .none
theorem mt_xe : Mt (fun _ _ _ => False) Tryz.prog 191 gf_xe.x := .by Tryz.func191 (by kernel_rfl) (l := []) (by kernel_rfl) .none
theorem mt_xf : Mt (fun _ _ _ => False) Tryz.prog 165 gf_xf.x := .by Tryz.func165 (by kernel_rfl) (l := [(191, gf_xe.x)]) (by kernel_rfl) (.and mt_xe .none)
theorem mt_xg : Mt (fun _ _ _ => False) Tryz.prog 129 gf_xg.x := .by Tryz.func129 (by kernel_rfl) (l := [(165, gf_xf.x)]) (by kernel_rfl) (.and mt_xf .none)
theorem mt_xh : Mt (fun _ _ _ => False) Tryz.prog 85 gf_xh.x := .by Tryz.func85 (by kernel_rfl) (l := [(128, gf_xd.x), (129, gf_xg.x)]) (by kernel_rfl) (.and mt_xd (.and mt_xg .none))
theorem mt_xi : Mt (fun _ _ _ => False) Tryz.prog 39 gf_xi.x := .by Tryz.func39 (by kernel_rfl) (l := [(85, gf_xh.x)]) (by kernel_rfl) (.and mt_xh .none)
theorem mt_xj : Mt (fun _ _ _ => False) Tryz.prog 8 gf_xj.x := .by Tryz.func8 (by kernel_rfl) (l := [(19, gf_xb.x), (38, gf_xc.x), (39, gf_xi.x), (40, gf_xa.x), (40, gf_xa.x)]) (by kernel_rfl) (.and mt_xb (.and mt_xc (.and mt_xi (.and mt_xa (.and mt_xa .none)))))
theorem mt_xk : Mt (fun _ _ _ => False) Tryz.prog 48 gf_xk.x := .by Tryz.func48 (by kernel_rfl) (l := []) (by kernel_rfl) .none
theorem mt_xl : Mt (fun _ _ _ => False) Tryz.prog 21 gf_xl.x := .by Tryz.func21 (by kernel_rfl) (l := [(48, gf_xk.x)]) (by kernel_rfl) (.and mt_xk .none)
theorem mt_xm : Mt (fun _ _ _ => False) Tryz.prog 92 gf_xm.x := .by Tryz.func92 (by kernel_rfl) (l := []) (by kernel_rfl) .none
theorem mt_xn : Mt (fun _ _ _ => False) Tryz.prog 46 gf_xn.x := .by Tryz.func46 (by kernel_rfl) (l := [(92, gf_xm.x)]) (by kernel_rfl) (.and mt_xm .none)
theorem mt_xo : Mt (fun _ _ _ => False) Tryz.prog 140 gf_xo.x := .by Tryz.func140 (by kernel_rfl) (l := []) (by kernel_rfl) .none
theorem mt_xp : Mt (fun _ _ _ => False) Tryz.prog 173 gf_xp.x := .by Tryz.func173 (by kernel_rfl) (l := []) (by kernel_rfl) .none
theorem mt_xq : Mt (fun _ _ _ => False) Tryz.prog 141 gf_xq.x := .by Tryz.func141 (by kernel_rfl) (l := [(173, gf_xp.x)]) (by kernel_rfl) (.and mt_xp .none)
theorem mt_xr : Mt (fun _ _ _ => False) Tryz.prog 208 gf_xr.x := .by Tryz.func208 (by kernel_rfl) (l := []) (by kernel_rfl) .none
theorem mt_xs : Mt (fun _ _ _ => False) Tryz.prog 196 gf_xs.x := .by Tryz.func196 (by kernel_rfl) (l := [(208, gf_xr.x)]) (by kernel_rfl) (.and mt_xr .none)
theorem mt_xt : Mt (fun _ _ _ => False) Tryz.prog 174 gf_xt.x := .by Tryz.func174 (by kernel_rfl) (l := [(196, gf_xs.x)]) (by kernel_rfl) (.and mt_xs .none)
theorem mt_xu : Mt (fun _ _ _ => False) Tryz.prog 142 gf_xu.x := .by Tryz.func142 (by kernel_rfl) (l := [(174, gf_xt.x)]) (by kernel_rfl) (.and mt_xt .none)
theorem mt_xv : Mt (fun _ _ _ => False) Tryz.prog 93 gf_xv.x := .by Tryz.func93 (by kernel_rfl) (l := [(140, gf_xo.x), (141, gf_xq.x), (142, gf_xu.x)]) (by kernel_rfl) (.and mt_xo (.and mt_xq (.and mt_xu .none)))
theorem mt_xw : Mt (fun _ _ _ => False) Tryz.prog 47 gf_xw.x := .by Tryz.func47 (by kernel_rfl) (l := [(93, gf_xv.x)]) (by kernel_rfl) (.and mt_xv .none)
theorem mt_xx : Mt (fun _ _ _ => False) Tryz.prog 10 gf_xx.x := .by Tryz.func10 (by kernel_rfl) (l := [(21, gf_xl.x), (46, gf_xn.x), (47, gf_xw.x), (48, gf_xk.x), (48, gf_xk.x)]) (by kernel_rfl) (.and mt_xl (.and mt_xn (.and mt_xw (.and mt_xk (.and mt_xk .none)))))
theorem mt_xy : Mt (fun _ _ _ => False) Tryz.prog 42 gf_xy.x := .by Tryz.func42 (by kernel_rfl) (l := []) (by kernel_rfl) .none
theorem mt_xz : Mt (fun _ _ _ => False) Tryz.prog 86 gf_xz.x := .by Tryz.func86 (by kernel_rfl) (l := [(42, gf_xy.x), (42, gf_xy.x), (42, gf_xy.x), (42, gf_xy.x), (42, gf_xy.x), (42, gf_xy.x), (42, gf_xy.x), (42, gf_xy.x), (42, gf_xy.x), (42, gf_xy.x)]) (by kernel_rfl) (.and mt_xy (.and mt_xy (.and mt_xy (.and mt_xy (.and mt_xy (.and mt_xy (.and mt_xy (.and mt_xy (.and mt_xy (.and mt_xy .none))))))))))
theorem mt_x0 : Mt (fun _ _ _ => False) Tryz.prog 130 gf_x0.x := .by Tryz.func130 (by kernel_rfl) (l := [(86, gf_xz.x), (42, gf_xy.x), (42, gf_xy.x), (42, gf_xy.x), (42, gf_xy.x), (42, gf_xy.x), (42, gf_xy.x), (42, gf_xy.x), (42, gf_xy.x), (42, gf_xy.x), (42, gf_xy.x), (42, gf_xy.x)]) (by kernel_rfl) (.and mt_xz (.and mt_xy (.and mt_xy (.and mt_xy (.and mt_xy (.and mt_xy (.and mt_xy (.and mt_xy (.and mt_xy (.and mt_xy (.and mt_xy (.and mt_xy .none))))))))))))
theorem mt_x1 : Mt (fun _ _ _ => False) Tryz.prog 87 gf_x1.x := .by Tryz.func87 (by kernel_rfl) (l := [(130, gf_x0.x)]) (by kernel_rfl) (.and mt_x0 .none)
theorem mt_x2 : Mt (fun _ _ _ => False) Tryz.prog 131 gf_x2.x := .by Tryz.func131 (by kernel_rfl) (l := []) (by kernel_rfl) .none
theorem mt_x3 : Mt (fun _ _ _ => False) Tryz.prog 88 gf_x3.x := .by Tryz.func88 (by kernel_rfl) (l := [(42, gf_xy.x), (131, gf_x2.x), (42, gf_xy.x)]) (by kernel_rfl) (.and mt_xy (.and mt_x2 (.and mt_xy .none)))
theorem mt_x4 : Mt (fun _ _ _ => False) Tryz.prog 166 gf_x4.x := .by Tryz.func166 (by kernel_rfl) (l := [(42, gf_xy.x), (42, gf_xy.x), (42, gf_xy.x), (42, gf_xy.x), (42, gf_xy.x)]) (by kernel_rfl) (.and mt_xy (.and mt_xy (.and mt_xy (.and mt_xy (.and mt_xy .none)))))
theorem mt_x5 : Mt (fun _ _ _ => False) Tryz.prog 192 gf_x5.x := .by Tryz.func192 (by kernel_rfl) (l := []) (by kernel_rfl) .none
theorem mt_x6 : Mt (fun _ _ _ => False) Tryz.prog 193 gf_x6.x := .by Tryz.func193 (by kernel_rfl) (l := []) (by kernel_rfl) .none
theorem mt_x7 : Mt (fun _ _ _ => False) Tryz.prog 167 gf_x7.x := .by Tryz.func167 (by kernel_rfl) (l := [(42, gf_xy.x), (42, gf_xy.x), (42, gf_xy.x), (42, gf_xy.x), (192, gf_x5.x), (193, gf_x6.x)]) (by kernel_rfl) (.and mt_xy (.and mt_xy (.and mt_xy (.and mt_xy (.and mt_x5 (.and mt_x6 .none))))))
theorem mt_x8 : Mt (fun _ _ _ => False) Tryz.prog 171 gf_x8.x := .by Tryz.func171 (by kernel_rfl) (l := []) (by kernel_rfl) .none
theorem mt_x9 : Mt (fun _ _ _ => False) Tryz.prog 194 gf_x9.x := .by Tryz.func194 (by kernel_rfl) (l := []) (by kernel_rfl) .none
theorem mt_xba : Mt (fun _ _ _ => False) Tryz.prog 168 gf_xba.x := .by Tryz.func168 (by kernel_rfl) (l := [(171, gf_x8.x), (42, gf_xy.x), (42, gf_xy.x), (194, gf_x9.x)]) (by kernel_rfl) (.and mt_x8 (.and mt_xy (.and mt_xy (.and mt_x9 .none))))
theorem mt_xbb : Mt (fun _ _ _ => False) Tryz.prog 132 gf_xbb.x := .by Tryz.func132 (by kernel_rfl) (l := [(166, gf_x4.x), (167, gf_x7.x), (168, gf_xba.x)]) (by kernel_rfl) (.and mt_x4 (.and mt_x7 (.and mt_xba .none)))
theorem mt_xbc : Mt (fun _ _ _ => False) Tryz.prog 227 gf_xbc.x := .by Tryz.func227 (by kernel_rfl) (l := []) (by kernel_rfl) .none
theorem mt_xbd : Mt (fun _ _ _ => False) Tryz.prog 207 gf_xbd.x := .by Tryz.func207 (by kernel_rfl) (l := [(227, gf_xbc.x)]) (by kernel_rfl) (.and mt_xbc .none)
theorem mt_xbe : Mt (fun _ _ _ => False) Tryz.prog 195 gf_xbe.x := .by Tryz.func195 (by kernel_rfl) (l := [(130, gf_x0.x), (207, gf_xbd.x)]) (by kernel_rfl) (.and mt_x0 (.and mt_xbd .none))
theorem mt_xbf : Mt (fun _ _ _ => False) Tryz.prog 169 gf_xbf.x := .by Tryz.func169 (by kernel_rfl) (l := [(195, gf_xbe.x)]) (by kernel_rfl) (.and mt_xbe .none)
theorem mt_xbg : Mt (fun _ _ _ => False) Tryz.prog 187 gf_xbg.x := .by Tryz.func187 (by kernel_rfl) (l := []) (by kernel_rfl) .none
theorem mt_xbh : Mt (fun _ _ _ => False) Tryz.prog 170 gf_xbh.x := .by Tryz.func170 (by kernel_rfl) (l := [(192, gf_x5.x), (187, gf_xbg.x), (187, gf_xbg.x)]) (by kernel_rfl) (.and mt_x5 (.and mt_xbg (.and mt_xbg .none)))
theorem mt_xbi : Mt (fun _ _ _ => False) Tryz.prog 134 gf_xbi.x := .by Tryz.func134 (by kernel_rfl) (l := [(169, gf_xbf.x), (169, gf_xbf.x), (170, gf_xbh.x)]) (by kernel_rfl) (.and mt_xbf (.and mt_xbf (.and mt_xbh .none)))
theorem mt_xbj : Mt (fun _ _ _ => False) Tryz.prog 133 gf_xbj.x := .by Tryz.func133 (by kernel_rfl) (l := []) (by kernel_rfl) .none
theorem mt_xbk : Mt (fun _ _ _ => False) Tryz.prog 172 gf_xbk.x := .by Tryz.func172 (by kernel_rfl) (l := [(194, gf_x9.x)]) (by kernel_rfl) (.and mt_x9 .none)
theorem mt_xbl : Mt (fun _ _ _ => False) Tryz.prog 136 gf_xbl.x := .by Tryz.func136 (by kernel_rfl) (l := [(168, gf_xba.x), (171, gf_x8.x), (172, gf_xbk.x)]) (by kernel_rfl) (.and mt_xba (.and mt_x8 (.and mt_xbk .none)))
theorem mt_xbm : Mt (fun _ _ _ => False) Tryz.prog 137 gf_xbm.x := .by Tryz.func137 (by kernel_rfl) (l := [(172, gf_xbk.x)]) (by kernel_rfl) (.and mt_xbk .none)
theorem mt_xbn : Mt (fun _ _ _ => False) Tryz.prog 135 gf_xbn.x := .by Tryz.func135 (by kernel_rfl) (l := []) (by kernel_rfl) .none
theorem mt_xbo : Mt (fun _ _ _ => False) Tryz.prog 138 gf_xbo.x := .by Tryz.func138 (by kernel_rfl) (l := [(42, gf_xy.x)]) (by kernel_rfl) (.and mt_xy .none)
theorem mt_xbp : Mt (fun _ _ _ => False) Tryz.prog 139 gf_xbp.x := .by Tryz.func139 (by kernel_rfl) (l := [(42, gf_xy.x)]) (by kernel_rfl) (.and mt_xy .none)
theorem mt_xbq : Mt (fun _ _ _ => False) Tryz.prog 89 gf_xbq.x := .by Tryz.func89 (by kernel_rfl) (l := [(132, gf_xbb.x), (134, gf_xbi.x), (133, gf_xbj.x), (136, gf_xbl.x), (137, gf_xbm.x), (135, gf_xbn.x), (138, gf_xbo.x), (139, gf_xbp.x)]) (by kernel_rfl) (.and mt_xbb (.and mt_xbi (.and mt_xbj (.and mt_xbl (.and mt_xbm (.and mt_xbn (.and mt_xbo (.and mt_xbp .none))))))))
theorem mt_xbr : Mt (fun _ _ _ => False) Tryz.prog 90 gf_xbr.x := .by Tryz.func90 (by kernel_rfl) (l := []) (by kernel_rfl) .none
theorem mt_xbs : Mt (fun _ _ _ => False) Tryz.prog 41 gf_xbs.x := .by Tryz.func41 (by kernel_rfl) (l := [(86, gf_xz.x), (42, gf_xy.x), (42, gf_xy.x), (87, gf_x1.x), (88, gf_x3.x), (89, gf_xbq.x), (90, gf_xbr.x)]) (by kernel_rfl) (.and mt_xz (.and mt_xy (.and mt_xy (.and mt_x1 (.and mt_x3 (.and mt_xbq (.and mt_xbr .none)))))))
theorem mt_xdd : Mt (fun _ _ _ => False) Tryz.prog 55 gf_xdd.x := .by Tryz.func55 (by kernel_rfl) (l := [(86, gf_xz.x)]) (by kernel_rfl) (.and mt_xz .none)
theorem mt_xde : Mt (fun _ _ _ => False) Tryz.prog 13 gf_xde.x := .by Tryz.func13 (by kernel_rfl) (l := [(41, gf_xbs.x), (55, gf_xdd.x)]) (by kernel_rfl) (.and mt_xbs (.and mt_xdd .none))
theorem mt_xbt : Mt (fun _ _ _ => False) Tryz.prog 49 gf_xbt.x := .by Tryz.func49 (by kernel_rfl) (l := []) (by kernel_rfl) .none
theorem mt_xbu : Mt (fun _ _ _ => False) Tryz.prog 96 gf_xbu.x := .by Tryz.func96 (by kernel_rfl) (l := [(49, gf_xbt.x), (49, gf_xbt.x), (49, gf_xbt.x), (49, gf_xbt.x), (49, gf_xbt.x), (49, gf_xbt.x), (49, gf_xbt.x), (49, gf_xbt.x), (49, gf_xbt.x), (49, gf_xbt.x)]) (by kernel_rfl) (.and mt_xbt (.and mt_xbt (.and mt_xbt (.and mt_xbt (.and mt_xbt (.and mt_xbt (.and mt_xbt (.and mt_xbt (.and mt_xbt (.and mt_xbt .none))))))))))
theorem mt_xbv : Mt (fun _ _ _ => False) Tryz.prog 100 gf_xbv.x := .by Tryz.func100 (by kernel_rfl) (l := [(49, gf_xbt.x)]) (by kernel_rfl) (.and mt_xbt .none)
theorem mt_xbw : Mt (fun _ _ _ => False) Tryz.prog 97 gf_xbw.x := .by Tryz.func97 (by kernel_rfl) (l := [(96, gf_xbu.x), (49, gf_xbt.x), (49, gf_xbt.x), (100, gf_xbv.x), (49, gf_xbt.x), (49, gf_xbt.x), (100, gf_xbv.x), (49, gf_xbt.x), (49, gf_xbt.x), (100, gf_xbv.x), (49, gf_xbt.x), (49, gf_xbt.x)]) (by kernel_rfl) (.and mt_xbu (.and mt_xbt (.and mt_xbt (.and mt_xbv (.and mt_xbt (.and mt_xbt (.and mt_xbv (.and mt_xbt (.and mt_xbt (.and mt_xbv (.and mt_xbt (.and mt_xbt .none))))))))))))
theorem mt_xbx : Mt (fun _ _ _ => False) Tryz.prog 98 gf_xbx.x := .by Tryz.func98 (by kernel_rfl) (l := []) (by kernel_rfl) .none
theorem mt_xby : Mt (fun _ _ _ => False) Tryz.prog 177 gf_xby.x := .by Tryz.func177 (by kernel_rfl) (l := [(49, gf_xbt.x), (49, gf_xbt.x), (49, gf_xbt.x), (49, gf_xbt.x), (49, gf_xbt.x)]) (by kernel_rfl) (.and mt_xbt (.and mt_xbt (.and mt_xbt (.and mt_xbt (.and mt_xbt .none)))))
theorem mt_xbz : Mt (fun _ _ _ => False) Tryz.prog 215 gf_xbz.x := .by Tryz.func215 (by kernel_rfl) (l := []) (by kernel_rfl) .none
theorem mt_xb0 : Mt (fun _ _ _ => False) Tryz.prog 203 gf_xb0.x := .by Tryz.func203 (by kernel_rfl) (l := [(215, gf_xbz.x), (215, gf_xbz.x)]) (by kernel_rfl) (.and mt_xbz (.and mt_xbz .none))
theorem mt_xb1 : Mt (fun _ _ _ => False) Tryz.prog 182 gf_xb1.x := .by Tryz.func182 (by kernel_rfl) (l := [(203, gf_xb0.x), (203, gf_xb0.x)]) (by kernel_rfl) (.and mt_xb0 (.and mt_xb0 .none))
theorem mt_xb2 : Mt (fun _ _ _ => False) Tryz.prog 198 gf_xb2.x := .by Tryz.func198 (by kernel_rfl) (l := [(182, gf_xb1.x)]) (by kernel_rfl) (.and mt_xb1 .none)
theorem mt_xb3 : Mt (fun _ _ _ => False) Tryz.prog 211 gf_xb3.x := .by Tryz.func211 (by kernel_rfl) (l := []) (by kernel_rfl) .none
theorem mt_xb4 : Mt (fun _ _ _ => False) Tryz.prog 210 gf_xb4.x := .by Tryz.func210 (by kernel_rfl) (l := []) (by kernel_rfl) .none
theorem mt_xb5 : Mt (fun _ _ _ => False) Tryz.prog 199 gf_xb5.x := .by Tryz.func199 (by kernel_rfl) (l := [(211, gf_xb3.x), (210, gf_xb4.x)]) (by kernel_rfl) (.and mt_xb3 (.and mt_xb4 .none))
theorem mt_xb6 : Mt (fun _ _ _ => False) Tryz.prog 178 gf_xb6.x := .by Tryz.func178 (by kernel_rfl) (l := [(198, gf_xb2.x), (199, gf_xb5.x), (100, gf_xbv.x), (49, gf_xbt.x), (49, gf_xbt.x), (49, gf_xbt.x)]) (by kernel_rfl) (.and mt_xb2 (.and mt_xb5 (.and mt_xbv (.and mt_xbt (.and mt_xbt (.and mt_xbt .none))))))
theorem mt_xb7 : Mt (fun _ _ _ => False) Tryz.prog 200 gf_xb7.x := .by Tryz.func200 (by kernel_rfl) (l := [(49, gf_xbt.x), (49, gf_xbt.x)]) (by kernel_rfl) (.and mt_xbt (.and mt_xbt .none))
theorem mt_xb8 : Mt (fun _ _ _ => False) Tryz.prog 184 gf_xb8.x := .by Tryz.func184 (by kernel_rfl) (l := [(203, gf_xb0.x), (203, gf_xb0.x)]) (by kernel_rfl) (.and mt_xb0 (.and mt_xb0 .none))
theorem mt_xb9 : Mt (fun _ _ _ => False) Tryz.prog 179 gf_xb9.x := .by Tryz.func179 (by kernel_rfl) (l := [(200, gf_xb7.x), (184, gf_xb8.x)]) (by kernel_rfl) (.and mt_xb7 (.and mt_xb8 .none))
theorem mt_xca : Mt (fun _ _ _ => False) Tryz.prog 146 gf_xca.x := .by Tryz.func146 (by kernel_rfl) (l := [(177, gf_xby.x), (178, gf_xb6.x), (179, gf_xb9.x)]) (by kernel_rfl) (.and mt_xby (.and mt_xb6 (.and mt_xb9 .none)))
theorem mt_xcb : Mt (fun _ _ _ => False) Tryz.prog 212 gf_xcb.x := .by Tryz.func212 (by kernel_rfl) (l := [(96, gf_xbu.x), (100, gf_xbv.x)]) (by kernel_rfl) (.and mt_xbu (.and mt_xbv .none))
theorem mt_xcc : Mt (fun _ _ _ => False) Tryz.prog 201 gf_xcc.x := .by Tryz.func201 (by kernel_rfl) (l := [(97, gf_xbw.x), (212, gf_xcb.x)]) (by kernel_rfl) (.and mt_xbw (.and mt_xcb .none))
theorem mt_xcd : Mt (fun _ _ _ => False) Tryz.prog 180 gf_xcd.x := .by Tryz.func180 (by kernel_rfl) (l := [(97, gf_xbw.x), (201, gf_xcc.x)]) (by kernel_rfl) (.and mt_xbw (.and mt_xcc .none))
theorem mt_xce : Mt (fun _ _ _ => False) Tryz.prog 213 gf_xce.x := .by Tryz.func213 (by kernel_rfl) (l := []) (by kernel_rfl) .none
theorem mt_xcf : Mt (fun _ _ _ => False) Tryz.prog 202 gf_xcf.x := .by Tryz.func202 (by kernel_rfl) (l := [(213, gf_xce.x), (213, gf_xce.x)]) (by kernel_rfl) (.and mt_xce (.and mt_xce .none))
theorem mt_xcg : Mt (fun _ _ _ => False) Tryz.prog 181 gf_xcg.x := .by Tryz.func181 (by kernel_rfl) (l := [(202, gf_xcf.x)]) (by kernel_rfl) (.and mt_xcf .none)
theorem mt_xch : Mt (fun _ _ _ => False) Tryz.prog 148 gf_xch.x := .by Tryz.func148 (by kernel_rfl) (l := [(180, gf_xcd.x), (181, gf_xcg.x), (182, gf_xb1.x)]) (by kernel_rfl) (.and mt_xcd (.and mt_xcg (.and mt_xb1 .none)))
theorem mt_xci : Mt (fun _ _ _ => False) Tryz.prog 147 gf_xci.x := .by Tryz.func147 (by kernel_rfl) (l := []) (by kernel_rfl) .none
theorem mt_xcj : Mt (fun _ _ _ => False) Tryz.prog 225 gf_xcj.x := .by Tryz.func225 (by kernel_rfl) (l := []) (by kernel_rfl) .none
theorem mt_xck : Mt (fun _ _ _ => False) Tryz.prog 205 gf_xck.x := .by Tryz.func205 (by kernel_rfl) (l := [(225, gf_xcj.x)]) (by kernel_rfl) (.and mt_xcj .none)
theorem mt_xcl : Mt (fun _ _ _ => False) Tryz.prog 216 gf_xcl.x := .by Tryz.func216 (by kernel_rfl) (l := []) (by kernel_rfl) .none
theorem mt_xcm : Mt (fun _ _ _ => False) Tryz.prog 204 gf_xcm.x := .by Tryz.func204 (by kernel_rfl) (l := [(216, gf_xcl.x)]) (by kernel_rfl) (.and mt_xcl .none)
theorem mt_xcn : Mt (fun _ _ _ => False) Tryz.prog 183 gf_xcn.x := .by Tryz.func183 (by kernel_rfl) (l := [(205, gf_xck.x), (204, gf_xcm.x)]) (by kernel_rfl) (.and mt_xck (.and mt_xcm .none))
theorem mt_xco : Mt (fun _ _ _ => False) Tryz.prog 150 gf_xco.x := .by Tryz.func150 (by kernel_rfl) (l := [(179, gf_xb9.x), (183, gf_xcn.x), (184, gf_xb8.x)]) (by kernel_rfl) (.and mt_xb9 (.and mt_xcn (.and mt_xb8 .none)))
theorem mt_xcp : Mt (fun _ _ _ => False) Tryz.prog 206 gf_xcp.x := .by Tryz.func206 (by kernel_rfl) (l := [(216, gf_xcl.x), (216, gf_xcl.x)]) (by kernel_rfl) (.and mt_xcl (.and mt_xcl .none))
theorem mt_xcq : Mt (fun _ _ _ => False) Tryz.prog 185 gf_xcq.x := .by Tryz.func185 (by kernel_rfl) (l := [(206, gf_xcp.x)]) (by kernel_rfl) (.and mt_xcp .none)
theorem mt_xcr : Mt (fun _ _ _ => False) Tryz.prog 151 gf_xcr.x := .by Tryz.func151 (by kernel_rfl) (l := [(185, gf_xcq.x), (184, gf_xb8.x)]) (by kernel_rfl) (.and mt_xcq (.and mt_xb8 .none))
theorem mt_xcs : Mt (fun _ _ _ => False) Tryz.prog 149 gf_xcs.x := .by Tryz.func149 (by kernel_rfl) (l := []) (by kernel_rfl) .none
theorem mt_xct : Mt (fun _ _ _ => False) Tryz.prog 152 gf_xct.x := .by Tryz.func152 (by kernel_rfl) (l := [(49, gf_xbt.x)]) (by kernel_rfl) (.and mt_xbt .none)
theorem mt_xcu : Mt (fun _ _ _ => False) Tryz.prog 153 gf_xcu.x := .by Tryz.func153 (by kernel_rfl) (l := [(49, gf_xbt.x)]) (by kernel_rfl) (.and mt_xbt .none)
theorem mt_xcv : Mt (fun _ _ _ => False) Tryz.prog 99 gf_xcv.x := .by Tryz.func99 (by kernel_rfl) (l := [(146, gf_xca.x), (148, gf_xch.x), (147, gf_xci.x), (150, gf_xco.x), (151, gf_xcr.x), (149, gf_xcs.x), (152, gf_xct.x), (153, gf_xcu.x)]) (by kernel_rfl) (.and mt_xca (.and mt_xch (.and mt_xci (.and mt_xco (.and mt_xcr (.and mt_xcs (.and mt_xct (.and mt_xcu .none))))))))
theorem mt_xcw : Mt (fun _ _ _ => False) Tryz.prog 154 gf_xcw.x := .by Tryz.func154 (by kernel_rfl) (l := []) (by kernel_rfl) .none
theorem mt_xcx : Mt (fun _ _ _ => False) Tryz.prog 101 gf_xcx.x := .by Tryz.func101 (by kernel_rfl) (l := [(154, gf_xcw.x)]) (by kernel_rfl) (.and mt_xcw .none)
theorem mt_xcy : Mt (fun _ _ _ => False) Tryz.prog 56 gf_xcy.x := .by Tryz.func56 (by kernel_rfl) (l := [(96, gf_xbu.x), (49, gf_xbt.x), (49, gf_xbt.x), (97, gf_xbw.x), (98, gf_xbx.x), (99, gf_xcv.x), (100, gf_xbv.x), (101, gf_xcx.x), (49, gf_xbt.x)]) (by kernel_rfl) (.and mt_xbu (.and mt_xbt (.and mt_xbt (.and mt_xbw (.and mt_xbx (.and mt_xcv (.and mt_xbv (.and mt_xcx (.and mt_xbt .none)))))))))
theorem mt_xdk : Mt (fun _ _ _ => False) Tryz.prog 57 gf_xdk.x := .by Tryz.func57 (by kernel_rfl) (l := [(96, gf_xbu.x)]) (by kernel_rfl) (.and mt_xbu .none)
theorem mt_xdt : Mt (fun _ _ _ => False) Tryz.prog 14 gf_xdt.x := .by Tryz.func14 (by kernel_rfl) (l := [(56, gf_xcy.x), (57, gf_xdk.x)]) (by kernel_rfl) (.and mt_xcy (.and mt_xdk .none))
theorem mt_xcz : Mt (fun _ _ _ => False) Tryz.prog 15 gf_xcz.x := .by Tryz.func15 (by kernel_rfl) (l := []) (by kernel_rfl) .none
theorem mt_xc0 : Mt (fun _ _ _ => False) Tryz.prog 24 gf_xc0.x := .by Tryz.func24 (by kernel_rfl) (l := [(15, gf_xcz.x)]) (by kernel_rfl) (.and mt_xcz .none)
theorem mt_xc1 : Mt (fun _ _ _ => False) Tryz.prog 94 gf_xc1.x := .by Tryz.func94 (by kernel_rfl) (l := []) (by kernel_rfl) .none
theorem mt_xc2 : Mt (fun _ _ _ => False) Tryz.prog 53 gf_xc2.x := .by Tryz.func53 (by kernel_rfl) (l := [(94, gf_xc1.x)]) (by kernel_rfl) (.and mt_xc1 .none)
theorem mt_xc3 : Mt (fun _ _ _ => False) Tryz.prog 143 gf_xc3.x := .by Tryz.func143 (by kernel_rfl) (l := []) (by kernel_rfl) .none
theorem mt_xc4 : Mt (fun _ _ _ => False) Tryz.prog 175 gf_xc4.x := .by Tryz.func175 (by kernel_rfl) (l := []) (by kernel_rfl) .none
theorem mt_xc5 : Mt (fun _ _ _ => False) Tryz.prog 144 gf_xc5.x := .by Tryz.func144 (by kernel_rfl) (l := [(175, gf_xc4.x)]) (by kernel_rfl) (.and mt_xc4 .none)
theorem mt_xc6 : Mt (fun _ _ _ => False) Tryz.prog 209 gf_xc6.x := .by Tryz.func209 (by kernel_rfl) (l := []) (by kernel_rfl) .none
theorem mt_xc7 : Mt (fun _ _ _ => False) Tryz.prog 197 gf_xc7.x := .by Tryz.func197 (by kernel_rfl) (l := [(209, gf_xc6.x)]) (by kernel_rfl) (.and mt_xc6 .none)
theorem mt_xc8 : Mt (fun _ _ _ => False) Tryz.prog 176 gf_xc8.x := .by Tryz.func176 (by kernel_rfl) (l := [(197, gf_xc7.x)]) (by kernel_rfl) (.and mt_xc7 .none)
theorem mt_xc9 : Mt (fun _ _ _ => False) Tryz.prog 145 gf_xc9.x := .by Tryz.func145 (by kernel_rfl) (l := [(176, gf_xc8.x)]) (by kernel_rfl) (.and mt_xc8 .none)
theorem mt_xda : Mt (fun _ _ _ => False) Tryz.prog 95 gf_xda.x := .by Tryz.func95 (by kernel_rfl) (l := [(143, gf_xc3.x), (144, gf_xc5.x), (145, gf_xc9.x)]) (by kernel_rfl) (.and mt_xc3 (.and mt_xc5 (.and mt_xc9 .none)))
theorem mt_xdb : Mt (fun _ _ _ => False) Tryz.prog 54 gf_xdb.x := .by Tryz.func54 (by kernel_rfl) (l := [(95, gf_xda.x)]) (by kernel_rfl) (.and mt_xda .none)
theorem mt_xdc : Mt (fun _ _ _ => False) Tryz.prog 12 gf_xdc.x := .by Tryz.func12 (by kernel_rfl) (l := [(24, gf_xc0.x), (53, gf_xc2.x), (54, gf_xdb.x), (15, gf_xcz.x), (15, gf_xcz.x)]) (by kernel_rfl) (.and mt_xc0 (.and mt_xc2 (.and mt_xdb (.and mt_xcz (.and mt_xcz .none)))))
theorem mt_xdu : Mt (fun _ _ _ => False) Tryz.prog 17 gf_xdu.x := .by Tryz.func17 (by kernel_rfl) (l := []) (by kernel_rfl) .none
theorem mt_xdv : Mt (fun _ _ _ => False) Tryz.prog 25 gf_xdv.x := .by Tryz.func25 (by kernel_rfl) (l := [(17, gf_xdu.x)]) (by kernel_rfl) (.and mt_xdu .none)
theorem mt_xdw : Mt (fun _ _ _ => False) Tryz.prog 58 gf_xdw.x := .by Tryz.func58 (by kernel_rfl) (l := []) (by kernel_rfl) .none
theorem mt_xdx : Mt (fun _ _ _ => False) Tryz.prog 102 gf_xdx.x := .by Tryz.func102 (by kernel_rfl) (l := []) (by kernel_rfl) .none
theorem mt_xdy : Mt (fun _ _ _ => False) Tryz.prog 155 gf_xdy.x := .by Tryz.func155 (by kernel_rfl) (l := []) (by kernel_rfl) .none
theorem mt_xdz : Mt (fun _ _ _ => False) Tryz.prog 103 gf_xdz.x := .by Tryz.func103 (by kernel_rfl) (l := [(155, gf_xdy.x)]) (by kernel_rfl) (.and mt_xdy .none)
theorem mt_xd0 : Mt (fun _ _ _ => False) Tryz.prog 59 gf_xd0.x := .by Tryz.func59 (by kernel_rfl) (l := [(102, gf_xdx.x), (103, gf_xdz.x)]) (by kernel_rfl) (.and mt_xdx (.and mt_xdz .none))
theorem mt_xd1 : Mt (fun _ _ _ => False) Tryz.prog 16 gf_xd1.x := .by Tryz.func16 (by kernel_rfl) (l := [(25, gf_xdv.x), (58, gf_xdw.x), (59, gf_xd0.x), (17, gf_xdu.x), (17, gf_xdu.x)]) (by kernel_rfl) (.and mt_xdv (.and mt_xdw (.and mt_xd0 (.and mt_xdu (.and mt_xdu .none)))))
theorem mt_xd2 : Mt (fun _ _ _ => False) Tryz.prog 18 gf_xd2.x := .by Tryz.func18 (by kernel_rfl) (l := []) (by kernel_rfl) .none
theorem mt_laws_FnExactHouseNums : Mt (fun _ _ _ => False) Tryz.prog 4 gf_laws_FnExactHouseNums.x := .by Tryz.func4 (by kernel_rfl) (l := [(8, gf_xj.x), (10, gf_xx.x), (13, gf_xde.x), (10, gf_xx.x), (14, gf_xdt.x), (15, gf_xcz.x), (10, gf_xx.x), (12, gf_xdc.x), (16, gf_xd1.x), (15, gf_xcz.x), (17, gf_xdu.x), (18, gf_xd2.x), (10, gf_xx.x), (14, gf_xdt.x), (15, gf_xcz.x), (18, gf_xd2.x)]) (by kernel_rfl) (.and mt_xj (.and mt_xx (.and mt_xde (.and mt_xx (.and mt_xdt (.and mt_xcz (.and mt_xx (.and mt_xdc (.and mt_xd1 (.and mt_xcz (.and mt_xdu (.and mt_xd2 (.and mt_xx (.and mt_xdt (.and mt_xcz (.and mt_xd2 .none))))))))))))))))
theorem runs_law {x0 : GHouse} (h : d_laws_FnExactHouseNums x0 = some true) : Runs gf_laws_FnExactHouseNums.x [.v .agg (eGHouse x0)] .one [.bool true] [] := gf_laws_FnExactHouseNums.ok (x0, ()) true h
section
variable {H : Type} {enc : TypeId × Value → H} {w : World} {base : Nat} {spare : Nat → Bool} {held : Bool}
theorem reads_t3 : Reads enc Tryz.prog w base spare held 3 (fun n : Int => [T.int .i64 n]) okI 1 := .int Tryz.underlying3 (by kernel_rfl)
theorem reads_t22 : Reads enc Tryz.prog w base spare held 22 (fun l : List Int => [T.sl 1 (l.map eN)]) (okL okI) 1 := .slice Tryz.underlying22 (by kernel_rfl) (by decide) reads_t3
theorem reads_t24 : Reads enc Tryz.prog w base spare held 24 eGRules okGRules 9 := (Reads.struct Tryz.underlying24 (by kernel_rfl) (.cons (by kernel_rfl) reads_t22 (.cons (by kernel_rfl) reads_t3 (.cons (by kernel_rfl) reads_t3 (.cons (by kernel_rfl) reads_t3 (.cons (by kernel_rfl) reads_t3 (.cons (by kernel_rfl) reads_t3 (.cons (by kernel_rfl) reads_t3 (.cons (by kernel_rfl) reads_t3 (.cons (by kernel_rfl) reads_t3 .nil)))))))))).map (fun x => ⟨x.1, x.2.1, x.2.2.1, x.2.2.2.1, x.2.2.2.2.1, x.2.2.2.2.2.1, x.2.2.2.2.2.2.1, x.2.2.2.2.2.2.2.1, x.2.2.2.2.2.2.2.2.1⟩) (fun _ => rfl) (fun _ h => h)
theorem reads_t139 : Reads enc Tryz.prog w base spare held 139 eGParty okGParty 10 := (Reads.struct Tryz.underlying139 (by kernel_rfl) (.cons (by kernel_rfl) reads_t3 (.cons (by kernel_rfl) reads_t3 (.cons (by kernel_rfl) reads_t3 (.cons (by kernel_rfl) reads_t3 (.cons (by kernel_rfl) reads_t3 (.cons (by kernel_rfl) reads_t3 (.cons (by kernel_rfl) reads_t3 (.cons (by kernel_rfl) reads_t3 (.cons (by kernel_rfl) reads_t3 (.cons (by kernel_rfl) reads_t3 .nil))))))))))).map (fun x => ⟨x.1, x.2.1, x.2.2.1, x.2.2.2.1, x.2.2.2.2.1, x.2.2.2.2.2.1, x.2.2.2.2.2.2.1, x.2.2.2.2.2.2.2.1, x.2.2.2.2.2.2.2.2.1, x.2.2.2.2.2.2.2.2.2.1⟩) (fun _ => rfl) (fun _ h => h)
theorem reads_t25 : Reads enc Tryz.prog w base spare held 25 (fun l : List GParty => [T.sl 10 (l.map eGParty)]) (okL okGParty) 1 := .slice Tryz.underlying25 (by kernel_rfl) (by decide) reads_t139
theorem reads_t129 : Reads enc Tryz.prog w base spare held 129 eGLedger okGLedger 5 := (Reads.struct Tryz.underlying129 (by kernel_rfl) (.cons (by kernel_rfl) reads_t3 (.cons (by kernel_rfl) reads_t3 (.cons (by kernel_rfl) reads_t3 (.cons (by kernel_rfl) reads_t3 (.cons (by kernel_rfl) reads_t3 .nil)))))).map (fun x => ⟨x.1, x.2.1, x.2.2.1, x.2.2.2.1, x.2.2.2.2.1⟩) (fun _ => rfl) (fun _ h => h)
theorem reads_t196 : Reads enc Tryz.prog w base spare held 196 eGEntry okGEntry 4 := (Reads.struct Tryz.underlying196 (by kernel_rfl) (.cons (by kernel_rfl) reads_t3 (.cons (by kernel_rfl) reads_t3 (.cons (by kernel_rfl) reads_t3 (.cons (by kernel_rfl) reads_t3 .nil))))).map (fun x => ⟨x.1, x.2.1, x.2.2.1, x.2.2.2.1⟩) (fun _ => rfl) (fun _ h => h)
theorem reads_t130 : Reads enc Tryz.prog w base spare held 130 (fun l : List GEntry => [T.sl 4 (l.map eGEntry)]) (okL okGEntry) 1 := .slice Tryz.underlying130 (by kernel_rfl) (by decide) reads_t196
theorem reads_t220 : Reads enc Tryz.prog w base spare held 220 eGPin okGPin 2 := (Reads.struct Tryz.underlying220 (by kernel_rfl) (.cons (by kernel_rfl) reads_t3 (.cons (by kernel_rfl) reads_t3 .nil))).map (fun x => ⟨x.1, x.2.1⟩) (fun _ => rfl) (fun _ h => h)
theorem reads_t207 : Reads enc Tryz.prog w base spare held 207 (fun l : List GPin => [T.sl 2 (l.map eGPin)]) (okL okGPin) 1 := .slice Tryz.underlying207 (by kernel_rfl) (by decide) reads_t220
theorem reads_t131 : Reads enc Tryz.prog w base spare held 131 (fun l : List (List GPin) => [T.sl 1 (l.map (fun l : List GPin => [T.sl 2 (l.map eGPin)]))]) (okL (okL okGPin)) 1 := .slice Tryz.underlying131 (by kernel_rfl) (by decide) reads_t207
theorem reads_t133 : Reads enc Tryz.prog w base spare held 133 eGWheel okGWheel 1 := (Reads.struct Tryz.underlying133 (by kernel_rfl) (.cons (by kernel_rfl) reads_t131 .nil)).map (fun x => ⟨x.1⟩) (fun _ => rfl) (fun _ h => h)
theorem reads_t135 : Reads enc Tryz.prog w base spare held 135 eGCabin okGCabin 7 := (Reads.struct Tryz.underlying135 (by kernel_rfl) (.cons (by kernel_rfl) reads_t129 (.cons (by kernel_rfl) reads_t130 (.cons (by kernel_rfl) reads_t133 .nil)))).map (fun x => ⟨x.1, x.2.1, x.2.2.1⟩) (fun _ => rfl) (fun _ h => h)
theorem reads_t26 : Reads enc Tryz.prog w base spare held 26 (fun l : List GCabin => [T.sl 7 (l.map eGCabin)]) (okL okGCabin) 1 := .slice Tryz.underlying26 (by kernel_rfl) (by decide) reads_t135
theorem reads_t28 : Reads enc Tryz.prog w base spare held 28 eGHouse okGHouse 15 := (Reads.struct Tryz.underlying28 (by kernel_rfl) (.cons (by kernel_rfl) reads_t24 (.cons (by kernel_rfl) reads_t3 (.cons (by kernel_rfl) reads_t3 (.cons (by kernel_rfl) reads_t25 (.cons (by kernel_rfl) reads_t26 (.cons (by kernel_rfl) reads_t22 (.cons (by kernel_rfl) reads_t22 .nil)))))))).map (fun x => ⟨x.1, x.2.1, x.2.2.1, x.2.2.2.1, x.2.2.2.2.1, x.2.2.2.2.2.1, x.2.2.2.2.2.2.1⟩) (fun _ => rfl) (fun _ h => h)
end

theorem contract (H : Type) (enc : TypeId × Value → H) (W : World) (base : Nat) (args : Array Value) (ds gs : List (DataW H)) (before : List MemPlace)
    (hval : ∀ (j : Nat) t v, Tryz.f4.params[j]? = some t → args[j]? = some v → Value.okWide Tryz.prog W .any base t v)
    (hW : DataW.Whole enc Tryz.prog Tryz.f4.params.toList Rows.fnExactHouseNumsSpec.vars false W args.toList ds gs before) :
    Calls Tryz.prog 4 args W fun e W' => ∃ v, e = .returned v ∧ Rows.fnExactHouseNumsSpec.post enc Tryz.prog Tryz.f4 false true false false W args v W' := by
  have hW' := hW
  obtain ⟨p, q, hA0, hV, rfl, hfz, hnd⟩ := hW
  have hA : DataW.TrodAll enc Tryz.prog W 0 (fun _ => true) true Tryz.f4.params.toList args.toList ds p := hA0
  obtain ⟨rfl, rfl⟩ := trodVars_none hV
  clear hA0
  simp only [List.append_nil] at hW'
  have hA1 := hA
  rw [Tryz.params4] at hA1 hval
  obtain ⟨v0, vs0, d0, ds0, p0, q0, hargs, rfl, rfl, h0, hA1⟩ := trodAll_cons hA1
  obtain ⟨rfl, rfl, rfl⟩ := trodAll_nil hA1
  obtain rfl : args = #[v0] := by cases args; simp_all
  obtain ⟨cs0, rfl, hs0⟩ := okWide_struct Tryz.underlying28 (hval 0 28 v0 rfl rfl)
  obtain ⟨x0, k0, e0⟩ := reads_t28.agg h0 hs0
  refine law_post (A := (fun _ _ _ => False)) prims_none laidOut (tb := 4) Tryz.underlying4 rfl (runs_law (Law_FnExactHouseNums k0)) mt_laws_FnExactHouseNums (gf_laws_FnExactHouseNums.ms.trans rfl) rfl ?_ hW' hA rfl (by rw [Tryz.params4]; exact of_decide_eq_true (by kernel_rfl)) rfl rfl rfl
  intro i V u hV hu
  match i, hV, hu with
  | 0, hV, hu => cases hV; cases hu; exact e0

set_option maxRecDepth 100000 in
theorem lifted (os : Os) (started : os.Started) (H : Type) (enc : TypeId × Value → H) :
    ReturnsInHanded {} Tryz.checked os 4 .any (Rows.fnExactHouseNumsSpec.pre6 enc Tryz.prog Tryz.f4 Rows.fnExactHouseNumsRow.domain false) (Rows.fnExactHouseNumsSpec.post enc Tryz.prog Tryz.f4 false true false false) := by
  refine returnsInHanded_of_change (C := Tryz.checked) own started (by kernel_rfl) Tryz.func4
    (ChangeSpec.witness6 (enc := enc) (C := Tryz.checked) false ⟨#[], #[.agg #[.slice none 0 0, .int .i64 0, .int .i64 0, .int .i64 0, .int .i64 0, .int .i64 0, .int .i64 0, .int .i64 0, .int .i64 0, .int .i64 0, .int .i64 0, .slice none 0 0, .slice none 0 0, .slice none 0 0, .slice none 0 0]], []⟩ 8 (by kernel_rfl) (by kernel_rfl) (by kernel_rfl) (by kernel_rfl)) ?_
  intro W base args ds gs before hval hW _ _
  exact contract H enc W base args ds gs before hval hW

theorem holds : Rows.FnExactHouseNumsSaid :=
  OpenClaim.holds_of_wide 4 Tryz.f4 rfl rfl rfl rfl rfl rfl rfl ⟨rfl, rfl, rfl, rfl, rfl⟩ rfl rfl rfl rfl rfl (by kernel_rfl) Tryz.func4 (by kernel_rfl)
    (of_decide_eq_true (by kernel_rfl)) (by unfold Func.isWrapper; first | (rw [if_pos (by decide +kernel)]; kernel_rfl) | (rw [if_neg (by decide +kernel)]; exact ⟨rfl, rfl⟩))
    (fun os started H enc _ => lifted os started H enc)
#print axioms holds
end Go.Proofs.YtifcpnfmfagidaaGreat.fnExactHouseNums
