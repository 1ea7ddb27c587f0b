/-
  The functions that the law FnExactLay reaches are the texts that are shown.
-/
import Derived.Test.YtifcpnfmfagidaaGreatRows
import Derived.Test.YtifcpnfmfagidaaGreatKC
import Derived.Test.YtifcpnfmfagidaaGreatLvE
import Derived.Test.YtifcpnfmfagidaaGreatPE
import Derived.WalkKit
import Derived.OpenShut
import Derived.JoinedCond
namespace Go.Proofs.YtifcpnfmfagidaaGreat.fnExactLay
open Go Lv Lv.P Go.ChangeShapes Go.WideShapes Go.ChangeAt Go.RowKit
set_option maxRecDepth 100000
abbrev M (n : Nat) (g : GF) : Prop := Mt (fun _ _ _ => False) Tryz.prog n g.x
theorem MB {A P n fn f} {l : List (Nat × XFunc)} (h1 : P.funcs[n]? = some fn) (h4 : ∀ p ∈ l, Mt A P p.1 p.2) (h2 : okAt P fn f = true := by kernel_rfl) (h3 : calAt fn f = l := by kernel_rfl) : Mt A P n f := Mt.by h1 h2 h3 h4
theorem mt_xa : M 40 gf_xa := MB Tryz.func40 (l := []) .none
theorem mt_xb : M 19 gf_xb := MB Tryz.func19 (l := [(40, gf_xa.x)]) (.and mt_xa .none)
theorem mt_xc : M 38 gf_xc := MB Tryz.func38 (l := []) .none
theorem mt_xd : M 128 gf_xd := MB Tryz.func128 (l := []) .none
theorem mt_xe : M 191 gf_xe := MB Tryz.func191 (l := []) .none
theorem mt_xf : M 165 gf_xf := MB Tryz.func165 (l := [(191, gf_xe.x)]) (.and mt_xe .none)
theorem mt_xg : M 129 gf_xg := MB Tryz.func129 (l := [(165, gf_xf.x)]) (.and mt_xf .none)
theorem mt_xh : M 85 gf_xh := MB Tryz.func85 (l := [(128, gf_xd.x), (129, gf_xg.x)]) (.and mt_xd (.and mt_xg .none))
theorem mt_xi : M 39 gf_xi := MB Tryz.func39 (l := [(85, gf_xh.x)]) (.and mt_xh .none)
theorem mt_xj : M 8 gf_xj := MB Tryz.func8 (l := [(19, gf_xb.x), (38, gf_xc.x), (39, gf_xi.x), (40, gf_xa.x), (40, gf_xa.x)]) (.and mt_xb (.and mt_xc (.and mt_xi (.and mt_xa (.and mt_xa .none)))))
theorem mt_xk : M 115 gf_xk := MB Tryz.func115 (l := []) .none
theorem mt_xl : M 71 gf_xl := MB Tryz.func71 (l := [(115, gf_xk.x), (115, gf_xk.x), (115, gf_xk.x)]) (.and mt_xk (.and mt_xk (.and mt_xk .none)))
theorem mt_xm : M 72 gf_xm := MB Tryz.func72 (l := []) .none
theorem mt_xn : M 33 gf_xn := MB Tryz.func33 (l := [(8, gf_xj.x), (71, gf_xl.x), (72, gf_xm.x)]) (.and mt_xj (.and mt_xl (.and mt_xm .none)))
theorem mt_xo : M 48 gf_xo := MB Tryz.func48 (l := []) .none
theorem mt_xp : M 21 gf_xp := MB Tryz.func21 (l := [(48, gf_xo.x)]) (.and mt_xo .none)
theorem mt_xq : M 92 gf_xq := MB Tryz.func92 (l := []) .none
theorem mt_xr : M 46 gf_xr := MB Tryz.func46 (l := [(92, gf_xq.x)]) (.and mt_xq .none)
theorem mt_xs : M 140 gf_xs := MB Tryz.func140 (l := []) .none
theorem mt_xt : M 173 gf_xt := MB Tryz.func173 (l := []) .none
theorem mt_xu : M 141 gf_xu := MB Tryz.func141 (l := [(173, gf_xt.x)]) (.and mt_xt .none)
theorem mt_xv : M 208 gf_xv := MB Tryz.func208 (l := []) .none
theorem mt_xw : M 196 gf_xw := MB Tryz.func196 (l := [(208, gf_xv.x)]) (.and mt_xv .none)
theorem mt_xx : M 174 gf_xx := MB Tryz.func174 (l := [(196, gf_xw.x)]) (.and mt_xw .none)
theorem mt_xy : M 142 gf_xy := MB Tryz.func142 (l := [(174, gf_xx.x)]) (.and mt_xx .none)
theorem mt_xz : M 93 gf_xz := MB Tryz.func93 (l := [(140, gf_xs.x), (141, gf_xu.x), (142, gf_xy.x)]) (.and mt_xs (.and mt_xu (.and mt_xy .none)))
theorem mt_x0 : M 47 gf_x0 := MB Tryz.func47 (l := [(93, gf_xz.x)]) (.and mt_xz .none)
theorem mt_x1 : M 10 gf_x1 := MB Tryz.func10 (l := [(21, gf_xp.x), (46, gf_xr.x), (47, gf_x0.x), (48, gf_xo.x), (48, gf_xo.x)]) (.and mt_xp (.and mt_xr (.and mt_x0 (.and mt_xo (.and mt_xo .none)))))
theorem mt_x2 : M 122 gf_x2 := MB Tryz.func122 (l := []) .none
theorem mt_x3 : M 78 gf_x3 := MB Tryz.func78 (l := [(122, gf_x2.x), (122, gf_x2.x), (122, gf_x2.x)]) (.and mt_x2 (.and mt_x2 (.and mt_x2 .none)))
theorem mt_x4 : M 36 gf_x4 := MB Tryz.func36 (l := []) .none
theorem mt_x5 : M 79 gf_x5 := MB Tryz.func79 (l := [(36, gf_x4.x)]) (.and mt_x4 .none)
theorem mt_x6 : M 35 gf_x6 := MB Tryz.func35 (l := [(10, gf_x1.x), (78, gf_x3.x), (79, gf_x5.x)]) (.and mt_x1 (.and mt_x3 (.and mt_x5 .none)))
theorem mt_xeh : M 104 gf_xeh := MB Tryz.func104 (l := []) .none
theorem mt_xbp : M 187 gf_xbp := MB Tryz.func187 (l := []) .none
theorem mt_xev : M 188 gf_xev := MB Tryz.func188 (l := []) .none
theorem mt_xew : M 163 gf_xew := MB Tryz.func163 (l := [(187, gf_xbp.x), (188, gf_xev.x)]) (.and mt_xbp (.and mt_xev .none))
theorem mt_xex : M 116 gf_xex := MB Tryz.func116 (l := List.replicate 65 (104, gf_xeh.x) ++ (163, gf_xew.x) :: []) (.rep 65 mt_xeh (.and mt_xew .none))
theorem mt_xey : M 73 gf_xey := MB Tryz.func73 (l := [(116, gf_xex.x), (116, gf_xex.x)]) (.and mt_xex (.and mt_xex .none))
theorem mt_x7 : M 42 gf_x7 := MB Tryz.func42 (l := []) .none
theorem mt_x8 : M 86 gf_x8 := MB Tryz.func86 (l := List.replicate 10 (42, gf_x7.x) ++ []) (.rep 10 mt_x7 .none)
theorem mt_x9 : M 130 gf_x9 := MB Tryz.func130 (l := (86, gf_x8.x) :: List.replicate 11 (42, gf_x7.x) ++ []) (.and mt_x8 (.rep 11 mt_x7 .none))
theorem mt_xba : M 87 gf_xba := MB Tryz.func87 (l := [(130, gf_x9.x)]) (.and mt_x9 .none)
theorem mt_xbb : M 131 gf_xbb := MB Tryz.func131 (l := []) .none
theorem mt_xbc : M 88 gf_xbc := MB Tryz.func88 (l := [(42, gf_x7.x), (131, gf_xbb.x), (42, gf_x7.x)]) (.and mt_x7 (.and mt_xbb (.and mt_x7 .none)))
theorem mt_xbd : M 166 gf_xbd := MB Tryz.func166 (l := List.replicate 5 (42, gf_x7.x) ++ []) (.rep 5 mt_x7 .none)
theorem mt_xbe : M 192 gf_xbe := MB Tryz.func192 (l := []) .none
theorem mt_xbf : M 193 gf_xbf := MB Tryz.func193 (l := []) .none
theorem mt_xbg : M 167 gf_xbg := MB Tryz.func167 (l := List.replicate 4 (42, gf_x7.x) ++ (192, gf_xbe.x) :: (193, gf_xbf.x) :: []) (.rep 4 mt_x7 (.and mt_xbe (.and mt_xbf .none)))
theorem mt_xbh : M 171 gf_xbh := MB Tryz.func171 (l := []) .none
theorem mt_xbi : M 194 gf_xbi := MB Tryz.func194 (l := []) .none
theorem mt_xbj : M 168 gf_xbj := MB Tryz.func168 (l := [(171, gf_xbh.x), (42, gf_x7.x), (42, gf_x7.x), (194, gf_xbi.x)]) (.and mt_xbh (.and mt_x7 (.and mt_x7 (.and mt_xbi .none))))
theorem mt_xbk : M 132 gf_xbk := MB Tryz.func132 (l := [(166, gf_xbd.x), (167, gf_xbg.x), (168, gf_xbj.x)]) (.and mt_xbd (.and mt_xbg (.and mt_xbj .none)))
theorem mt_xbl : M 227 gf_xbl := MB Tryz.func227 (l := []) .none
theorem mt_xbm : M 207 gf_xbm := MB Tryz.func207 (l := [(227, gf_xbl.x)]) (.and mt_xbl .none)
theorem mt_xbn : M 195 gf_xbn := MB Tryz.func195 (l := [(130, gf_x9.x), (207, gf_xbm.x)]) (.and mt_x9 (.and mt_xbm .none))
theorem mt_xbo : M 169 gf_xbo := MB Tryz.func169 (l := [(195, gf_xbn.x)]) (.and mt_xbn .none)
theorem mt_xbq : M 170 gf_xbq := MB Tryz.func170 (l := [(192, gf_xbe.x), (187, gf_xbp.x), (187, gf_xbp.x)]) (.and mt_xbe (.and mt_xbp (.and mt_xbp .none)))
theorem mt_xbr : M 134 gf_xbr := MB Tryz.func134 (l := [(169, gf_xbo.x), (169, gf_xbo.x), (170, gf_xbq.x)]) (.and mt_xbo (.and mt_xbo (.and mt_xbq .none)))
theorem mt_xbs : M 133 gf_xbs := MB Tryz.func133 (l := []) .none
theorem mt_xbt : M 172 gf_xbt := MB Tryz.func172 (l := [(194, gf_xbi.x)]) (.and mt_xbi .none)
theorem mt_xbu : M 136 gf_xbu := MB Tryz.func136 (l := [(168, gf_xbj.x), (171, gf_xbh.x), (172, gf_xbt.x)]) (.and mt_xbj (.and mt_xbh (.and mt_xbt .none)))
theorem mt_xbv : M 137 gf_xbv := MB Tryz.func137 (l := [(172, gf_xbt.x)]) (.and mt_xbt .none)
theorem mt_xbw : M 135 gf_xbw := MB Tryz.func135 (l := []) .none
theorem mt_xbx : M 138 gf_xbx := MB Tryz.func138 (l := [(42, gf_x7.x)]) (.and mt_x7 .none)
theorem mt_xby : M 139 gf_xby := MB Tryz.func139 (l := [(42, gf_x7.x)]) (.and mt_x7 .none)
theorem mt_xbz : M 89 gf_xbz := MB Tryz.func89 (l := [(132, gf_xbk.x), (134, gf_xbr.x), (133, gf_xbs.x), (136, gf_xbu.x), (137, gf_xbv.x), (135, gf_xbw.x), (138, gf_xbx.x), (139, gf_xby.x)]) (.and mt_xbk (.and mt_xbr (.and mt_xbs (.and mt_xbu (.and mt_xbv (.and mt_xbw (.and mt_xbx (.and mt_xby .none))))))))
theorem mt_xb0 : M 90 gf_xb0 := MB Tryz.func90 (l := []) .none
theorem mt_xb1 : M 41 gf_xb1 := MB Tryz.func41 (l := [(86, gf_x8.x), (42, gf_x7.x), (42, gf_x7.x), (87, gf_xba.x), (88, gf_xbc.x), (89, gf_xbz.x), (90, gf_xb0.x)]) (.and mt_x8 (.and mt_x7 (.and mt_x7 (.and mt_xba (.and mt_xbc (.and mt_xbz (.and mt_xb0 .none)))))))
theorem mt_xb2 : M 119 gf_xb2 := MB Tryz.func119 (l := [(42, gf_x7.x)]) (.and mt_x7 .none)
theorem mt_xb3 : M 117 gf_xb3 := MB Tryz.func117 (l := [(119, gf_xb2.x), (119, gf_xb2.x), (119, gf_xb2.x)]) (.and mt_xb2 (.and mt_xb2 (.and mt_xb2 .none)))
theorem mt_xb4 : M 118 gf_xb4 := MB Tryz.func118 (l := [(42, gf_x7.x)]) (.and mt_x7 .none)
theorem mt_xb5 : M 75 gf_xb5 := MB Tryz.func75 (l := (118, gf_xb4.x) :: (118, gf_xb4.x) :: (42, gf_x7.x) :: List.replicate 5 (118, gf_xb4.x) ++ []) (.and mt_xb4 (.and mt_xb4 (.and mt_x7 (.rep 5 mt_xb4 .none))))
theorem mt_xb6 : M 74 gf_xb6 := MB Tryz.func74 (l := [(41, gf_xb1.x), (117, gf_xb3.x), (42, gf_x7.x), (75, gf_xb5.x)]) (.and mt_xb1 (.and mt_xb3 (.and mt_x7 (.and mt_xb5 .none))))
theorem mt_xd1 : M 91 gf_xd1 := MB Tryz.func91 (l := [(42, gf_x7.x)]) (.and mt_x7 .none)
theorem mt_xd2 : M 43 gf_xd2 := MB Tryz.func43 (l := [(91, gf_xd1.x)]) (.and mt_xd1 .none)
theorem mt_xez : M 120 gf_xez := MB Tryz.func120 (l := (75, gf_xb5.x) :: List.replicate 4 (43, gf_xd2.x) ++ []) (.and mt_xb5 (.rep 4 mt_xd2 .none))
theorem mt_xd3 : M 45 gf_xd3 := MB Tryz.func45 (l := []) .none
theorem mt_xd4 : M 44 gf_xd4 := MB Tryz.func44 (l := []) .none
theorem mt_xe0 : M 121 gf_xe0 := MB Tryz.func121 (l := [(42, gf_x7.x), (42, gf_x7.x), (91, gf_xd1.x), (45, gf_xd3.x), (44, gf_xd4.x), (91, gf_xd1.x)]) (.and mt_x7 (.and mt_x7 (.and mt_xd1 (.and mt_xd3 (.and mt_xd4 (.and mt_xd1 .none))))))
theorem mt_xe1 : M 77 gf_xe1 := MB Tryz.func77 (l := [(120, gf_xez.x), (121, gf_xe0.x)]) (.and mt_xez (.and mt_xe0 .none))
theorem mt_xe2 : M 76 gf_xe2 := MB Tryz.func76 (l := [(119, gf_xb2.x)]) (.and mt_xb2 .none)
theorem mt_xe3 : M 34 gf_xe3 := MB Tryz.func34 (l := [(73, gf_xey.x), (74, gf_xb6.x), (75, gf_xb5.x), (77, gf_xe1.x), (76, gf_xe2.x), (76, gf_xe2.x), (77, gf_xe1.x), (76, gf_xe2.x)]) (.and mt_xey (.and mt_xb6 (.and mt_xb5 (.and mt_xe1 (.and mt_xe2 (.and mt_xe2 (.and mt_xe1 (.and mt_xe2 .none))))))))
theorem mt_xei : M 158 gf_xei := MB Tryz.func158 (l := []) .none
theorem mt_xej : M 106 gf_xej := MB Tryz.func106 (l := [(158, gf_xei.x)]) (.and mt_xei .none)
theorem mt_xe4 : M 189 gf_xe4 := MB Tryz.func189 (l := []) .none
theorem mt_xe5 : M 190 gf_xe5 := MB Tryz.func190 (l := []) .none
theorem mt_xe6 : M 164 gf_xe6 := MB Tryz.func164 (l := [(189, gf_xe4.x), (190, gf_xe5.x)]) (.and mt_xe4 (.and mt_xe5 .none))
theorem mt_xe7 : M 123 gf_xe7 := MB Tryz.func123 (l := (106, gf_xej.x) :: List.replicate 7 (158, gf_xei.x) ++ (106, gf_xej.x) :: (158, gf_xei.x) :: (158, gf_xei.x) :: (164, gf_xe6.x) :: []) (.and mt_xej (.rep 7 mt_xei (.and mt_xej (.and mt_xei (.and mt_xei (.and mt_xe6 .none))))))
theorem mt_xe8 : M 80 gf_xe8 := MB Tryz.func80 (l := [(123, gf_xe7.x)]) (.and mt_xe7 .none)
theorem mt_xb7 : M 49 gf_xb7 := MB Tryz.func49 (l := []) .none
theorem mt_xb8 : M 96 gf_xb8 := MB Tryz.func96 (l := List.replicate 10 (49, gf_xb7.x) ++ []) (.rep 10 mt_xb7 .none)
theorem mt_xb9 : M 100 gf_xb9 := MB Tryz.func100 (l := [(49, gf_xb7.x)]) (.and mt_xb7 .none)
theorem mt_xca : M 97 gf_xca := MB Tryz.func97 (l := [(96, gf_xb8.x), (49, gf_xb7.x), (49, gf_xb7.x), (100, gf_xb9.x), (49, gf_xb7.x), (49, gf_xb7.x), (100, gf_xb9.x), (49, gf_xb7.x), (49, gf_xb7.x), (100, gf_xb9.x), (49, gf_xb7.x), (49, gf_xb7.x)]) (.and mt_xb8 (.and mt_xb7 (.and mt_xb7 (.and mt_xb9 (.and mt_xb7 (.and mt_xb7 (.and mt_xb9 (.and mt_xb7 (.and mt_xb7 (.and mt_xb9 (.and mt_xb7 (.and mt_xb7 .none))))))))))))
theorem mt_xcb : M 98 gf_xcb := MB Tryz.func98 (l := []) .none
theorem mt_xcc : M 177 gf_xcc := MB Tryz.func177 (l := List.replicate 5 (49, gf_xb7.x) ++ []) (.rep 5 mt_xb7 .none)
theorem mt_xcd : M 215 gf_xcd := MB Tryz.func215 (l := []) .none
theorem mt_xce : M 203 gf_xce := MB Tryz.func203 (l := [(215, gf_xcd.x), (215, gf_xcd.x)]) (.and mt_xcd (.and mt_xcd .none))
theorem mt_xcf : M 182 gf_xcf := MB Tryz.func182 (l := [(203, gf_xce.x), (203, gf_xce.x)]) (.and mt_xce (.and mt_xce .none))
theorem mt_xcg : M 198 gf_xcg := MB Tryz.func198 (l := [(182, gf_xcf.x)]) (.and mt_xcf .none)
theorem mt_xch : M 211 gf_xch := MB Tryz.func211 (l := []) .none
theorem mt_xci : M 210 gf_xci := MB Tryz.func210 (l := []) .none
theorem mt_xcj : M 199 gf_xcj := MB Tryz.func199 (l := [(211, gf_xch.x), (210, gf_xci.x)]) (.and mt_xch (.and mt_xci .none))
theorem mt_xck : M 178 gf_xck := MB Tryz.func178 (l := [(198, gf_xcg.x), (199, gf_xcj.x), (100, gf_xb9.x), (49, gf_xb7.x), (49, gf_xb7.x), (49, gf_xb7.x)]) (.and mt_xcg (.and mt_xcj (.and mt_xb9 (.and mt_xb7 (.and mt_xb7 (.and mt_xb7 .none))))))
theorem mt_xcl : M 200 gf_xcl := MB Tryz.func200 (l := [(49, gf_xb7.x), (49, gf_xb7.x)]) (.and mt_xb7 (.and mt_xb7 .none))
theorem mt_xcm : M 184 gf_xcm := MB Tryz.func184 (l := [(203, gf_xce.x), (203, gf_xce.x)]) (.and mt_xce (.and mt_xce .none))
theorem mt_xcn : M 179 gf_xcn := MB Tryz.func179 (l := [(200, gf_xcl.x), (184, gf_xcm.x)]) (.and mt_xcl (.and mt_xcm .none))
theorem mt_xco : M 146 gf_xco := MB Tryz.func146 (l := [(177, gf_xcc.x), (178, gf_xck.x), (179, gf_xcn.x)]) (.and mt_xcc (.and mt_xck (.and mt_xcn .none)))
theorem mt_xcp : M 212 gf_xcp := MB Tryz.func212 (l := [(96, gf_xb8.x), (100, gf_xb9.x)]) (.and mt_xb8 (.and mt_xb9 .none))
theorem mt_xcq : M 201 gf_xcq := MB Tryz.func201 (l := [(97, gf_xca.x), (212, gf_xcp.x)]) (.and mt_xca (.and mt_xcp .none))
theorem mt_xcr : M 180 gf_xcr := MB Tryz.func180 (l := [(97, gf_xca.x), (201, gf_xcq.x)]) (.and mt_xca (.and mt_xcq .none))
theorem mt_xcs : M 213 gf_xcs := MB Tryz.func213 (l := []) .none
theorem mt_xct : M 202 gf_xct := MB Tryz.func202 (l := [(213, gf_xcs.x), (213, gf_xcs.x)]) (.and mt_xcs (.and mt_xcs .none))
theorem mt_xcu : M 181 gf_xcu := MB Tryz.func181 (l := [(202, gf_xct.x)]) (.and mt_xct .none)
theorem mt_xcv : M 148 gf_xcv := MB Tryz.func148 (l := [(180, gf_xcr.x), (181, gf_xcu.x), (182, gf_xcf.x)]) (.and mt_xcr (.and mt_xcu (.and mt_xcf .none)))
theorem mt_xcw : M 147 gf_xcw := MB Tryz.func147 (l := []) .none
theorem mt_xcx : M 225 gf_xcx := MB Tryz.func225 (l := []) .none
theorem mt_xcy : M 205 gf_xcy := MB Tryz.func205 (l := [(225, gf_xcx.x)]) (.and mt_xcx .none)
theorem mt_xcz : M 216 gf_xcz := MB Tryz.func216 (l := []) .none
theorem mt_xc0 : M 204 gf_xc0 := MB Tryz.func204 (l := [(216, gf_xcz.x)]) (.and mt_xcz .none)
theorem mt_xc1 : M 183 gf_xc1 := MB Tryz.func183 (l := [(205, gf_xcy.x), (204, gf_xc0.x)]) (.and mt_xcy (.and mt_xc0 .none))
theorem mt_xc2 : M 150 gf_xc2 := MB Tryz.func150 (l := [(179, gf_xcn.x), (183, gf_xc1.x), (184, gf_xcm.x)]) (.and mt_xcn (.and mt_xc1 (.and mt_xcm .none)))
theorem mt_xc3 : M 206 gf_xc3 := MB Tryz.func206 (l := [(216, gf_xcz.x), (216, gf_xcz.x)]) (.and mt_xcz (.and mt_xcz .none))
theorem mt_xc4 : M 185 gf_xc4 := MB Tryz.func185 (l := [(206, gf_xc3.x)]) (.and mt_xc3 .none)
theorem mt_xc5 : M 151 gf_xc5 := MB Tryz.func151 (l := [(185, gf_xc4.x), (184, gf_xcm.x)]) (.and mt_xc4 (.and mt_xcm .none))
theorem mt_xc6 : M 149 gf_xc6 := MB Tryz.func149 (l := []) .none
theorem mt_xc7 : M 152 gf_xc7 := MB Tryz.func152 (l := [(49, gf_xb7.x)]) (.and mt_xb7 .none)
theorem mt_xc8 : M 153 gf_xc8 := MB Tryz.func153 (l := [(49, gf_xb7.x)]) (.and mt_xb7 .none)
theorem mt_xc9 : M 99 gf_xc9 := MB Tryz.func99 (l := [(146, gf_xco.x), (148, gf_xcv.x), (147, gf_xcw.x), (150, gf_xc2.x), (151, gf_xc5.x), (149, gf_xc6.x), (152, gf_xc7.x), (153, gf_xc8.x)]) (.and mt_xco (.and mt_xcv (.and mt_xcw (.and mt_xc2 (.and mt_xc5 (.and mt_xc6 (.and mt_xc7 (.and mt_xc8 .none))))))))
theorem mt_xda : M 154 gf_xda := MB Tryz.func154 (l := []) .none
theorem mt_xdb : M 101 gf_xdb := MB Tryz.func101 (l := [(154, gf_xda.x)]) (.and mt_xda .none)
theorem mt_xdc : M 56 gf_xdc := MB Tryz.func56 (l := [(96, gf_xb8.x), (49, gf_xb7.x), (49, gf_xb7.x), (97, gf_xca.x), (98, gf_xcb.x), (99, gf_xc9.x), (100, gf_xb9.x), (101, gf_xdb.x), (49, gf_xb7.x)]) (.and mt_xb8 (.and mt_xb7 (.and mt_xb7 (.and mt_xca (.and mt_xcb (.and mt_xc9 (.and mt_xb9 (.and mt_xdb (.and mt_xb7 .none)))))))))
theorem mt_xdd : M 108 gf_xdd := MB Tryz.func108 (l := [(49, gf_xb7.x)]) (.and mt_xb7 .none)
theorem mt_xde : M 124 gf_xde := MB Tryz.func124 (l := [(108, gf_xdd.x), (108, gf_xdd.x), (108, gf_xdd.x)]) (.and mt_xdd (.and mt_xdd (.and mt_xdd .none)))
theorem mt_xdf : M 125 gf_xdf := MB Tryz.func125 (l := [(49, gf_xb7.x)]) (.and mt_xb7 .none)
theorem mt_xdg : M 82 gf_xdg := MB Tryz.func82 (l := [(125, gf_xdf.x), (49, gf_xb7.x)]) (.and mt_xdf (.and mt_xb7 .none))
theorem mt_xdh : M 81 gf_xdh := MB Tryz.func81 (l := [(56, gf_xdc.x), (124, gf_xde.x), (49, gf_xb7.x), (82, gf_xdg.x)]) (.and mt_xdc (.and mt_xde (.and mt_xb7 (.and mt_xdg .none))))
theorem mt_xd5 : M 50 gf_xd5 := MB Tryz.func50 (l := [(49, gf_xb7.x)]) (.and mt_xb7 .none)
theorem mt_xd6 : M 51 gf_xd6 := MB Tryz.func51 (l := [(50, gf_xd5.x)]) (.and mt_xd5 .none)
theorem mt_xe9 : M 127 gf_xe9 := MB Tryz.func127 (l := [(82, gf_xdg.x), (51, gf_xd6.x)]) (.and mt_xdg (.and mt_xd6 .none))
theorem mt_xd7 : M 52 gf_xd7 := MB Tryz.func52 (l := []) .none
theorem mt_xfa : M 126 gf_xfa := MB Tryz.func126 (l := [(49, gf_xb7.x), (49, gf_xb7.x), (50, gf_xd5.x), (52, gf_xd7.x), (50, gf_xd5.x)]) (.and mt_xb7 (.and mt_xb7 (.and mt_xd5 (.and mt_xd7 (.and mt_xd5 .none)))))
theorem mt_xfb : M 84 gf_xfb := MB Tryz.func84 (l := [(127, gf_xe9.x), (126, gf_xfa.x)]) (.and mt_xe9 (.and mt_xfa .none))
theorem mt_xfc : M 83 gf_xfc := MB Tryz.func83 (l := [(108, gf_xdd.x), (108, gf_xdd.x)]) (.and mt_xdd (.and mt_xdd .none))
theorem mt_xfd : M 37 gf_xfd := MB Tryz.func37 (l := [(80, gf_xe8.x), (81, gf_xdh.x), (82, gf_xdg.x), (84, gf_xfb.x), (83, gf_xfc.x), (83, gf_xfc.x), (84, gf_xfb.x), (83, gf_xfc.x)]) (.and mt_xe8 (.and mt_xdh (.and mt_xdg (.and mt_xfb (.and mt_xfc (.and mt_xfc (.and mt_xfb (.and mt_xfc .none))))))))
theorem mt_xdi : M 15 gf_xdi := MB Tryz.func15 (l := []) .none
theorem mt_xdj : M 24 gf_xdj := MB Tryz.func24 (l := [(15, gf_xdi.x)]) (.and mt_xdi .none)
theorem mt_xdk : M 94 gf_xdk := MB Tryz.func94 (l := []) .none
theorem mt_xdl : M 53 gf_xdl := MB Tryz.func53 (l := [(94, gf_xdk.x)]) (.and mt_xdk .none)
theorem mt_xdm : M 143 gf_xdm := MB Tryz.func143 (l := []) .none
theorem mt_xdn : M 175 gf_xdn := MB Tryz.func175 (l := []) .none
theorem mt_xdo : M 144 gf_xdo := MB Tryz.func144 (l := [(175, gf_xdn.x)]) (.and mt_xdn .none)
theorem mt_xdp : M 209 gf_xdp := MB Tryz.func209 (l := []) .none
theorem mt_xdq : M 197 gf_xdq := MB Tryz.func197 (l := [(209, gf_xdp.x)]) (.and mt_xdp .none)
theorem mt_xdr : M 176 gf_xdr := MB Tryz.func176 (l := [(197, gf_xdq.x)]) (.and mt_xdq .none)
theorem mt_xds : M 145 gf_xds := MB Tryz.func145 (l := [(176, gf_xdr.x)]) (.and mt_xdr .none)
theorem mt_xdt : M 95 gf_xdt := MB Tryz.func95 (l := [(143, gf_xdm.x), (144, gf_xdo.x), (145, gf_xds.x)]) (.and mt_xdm (.and mt_xdo (.and mt_xds .none)))
theorem mt_xdu : M 54 gf_xdu := MB Tryz.func54 (l := [(95, gf_xdt.x)]) (.and mt_xdt .none)
theorem mt_xdv : M 12 gf_xdv := MB Tryz.func12 (l := [(24, gf_xdj.x), (53, gf_xdl.x), (54, gf_xdu.x), (15, gf_xdi.x), (15, gf_xdi.x)]) (.and mt_xdj (.and mt_xdl (.and mt_xdu (.and mt_xdi (.and mt_xdi .none)))))
theorem mt_xdw : M 109 gf_xdw := MB Tryz.func109 (l := []) .none
theorem mt_xdx : M 63 gf_xdx := MB Tryz.func63 (l := [(109, gf_xdw.x), (109, gf_xdw.x), (109, gf_xdw.x)]) (.and mt_xdw (.and mt_xdw (.and mt_xdw .none)))
theorem mt_xdy : M 110 gf_xdy := MB Tryz.func110 (l := []) .none
theorem mt_xdz : M 64 gf_xdz := MB Tryz.func64 (l := [(110, gf_xdy.x)]) (.and mt_xdy .none)
theorem mt_xd0 : M 23 gf_xd0 := MB Tryz.func23 (l := [(12, gf_xdv.x), (63, gf_xdx.x), (64, gf_xdz.x)]) (.and mt_xdv (.and mt_xdx (.and mt_xdz .none)))
theorem mt_xd8 : M 17 gf_xd8 := MB Tryz.func17 (l := []) .none
theorem mt_xd9 : M 25 gf_xd9 := MB Tryz.func25 (l := [(17, gf_xd8.x)]) (.and mt_xd8 .none)
theorem mt_xea : M 58 gf_xea := MB Tryz.func58 (l := []) .none
theorem mt_xeb : M 102 gf_xeb := MB Tryz.func102 (l := []) .none
theorem mt_xec : M 155 gf_xec := MB Tryz.func155 (l := []) .none
theorem mt_xed : M 103 gf_xed := MB Tryz.func103 (l := [(155, gf_xec.x)]) (.and mt_xec .none)
theorem mt_xee : M 59 gf_xee := MB Tryz.func59 (l := [(102, gf_xeb.x), (103, gf_xed.x)]) (.and mt_xeb (.and mt_xed .none))
theorem mt_xef : M 16 gf_xef := MB Tryz.func16 (l := [(25, gf_xd9.x), (58, gf_xea.x), (59, gf_xee.x), (17, gf_xd8.x), (17, gf_xd8.x)]) (.and mt_xd9 (.and mt_xea (.and mt_xee (.and mt_xd8 (.and mt_xd8 .none)))))
theorem mt_xek : M 65 gf_xek := MB Tryz.func65 (l := []) .none
theorem mt_xel : M 26 gf_xel := MB Tryz.func26 (l := [(16, gf_xef.x), (65, gf_xek.x)]) (.and mt_xef (.and mt_xek .none))
theorem mt_xeg : M 18 gf_xeg := MB Tryz.func18 (l := []) .none
theorem mt_xem : M 111 gf_xem := MB Tryz.func111 (l := [(18, gf_xeg.x)]) (.and mt_xeg .none)
theorem mt_xen : M 112 gf_xen := MB Tryz.func112 (l := []) .none
theorem mt_xeo : M 161 gf_xeo := MB Tryz.func161 (l := []) .none
theorem mt_xep : M 186 gf_xep := MB Tryz.func186 (l := []) .none
theorem mt_xeq : M 162 gf_xeq := MB Tryz.func162 (l := [(186, gf_xep.x)]) (.and mt_xep .none)
theorem mt_xer : M 113 gf_xer := MB Tryz.func113 (l := [(161, gf_xeo.x), (162, gf_xeq.x)]) (.and mt_xeo (.and mt_xeq .none))
theorem mt_xes : M 66 gf_xes := MB Tryz.func66 (l := [(111, gf_xem.x), (112, gf_xen.x), (113, gf_xer.x), (18, gf_xeg.x), (18, gf_xeg.x)]) (.and mt_xem (.and mt_xen (.and mt_xer (.and mt_xeg (.and mt_xeg .none)))))
theorem mt_xet : M 67 gf_xet := MB Tryz.func67 (l := []) .none
theorem mt_xeu : M 27 gf_xeu := MB Tryz.func27 (l := [(66, gf_xes.x), (67, gf_xet.x)]) (.and mt_xes (.and mt_xet .none))
theorem mt_laws_FnExactLay : M 7 gf_laws_FnExactLay := MB Tryz.func7 (l := [(33, gf_xn.x), (35, gf_x6.x), (36, gf_x4.x), (34, gf_xe3.x), (34, gf_xe3.x), (36, gf_x4.x), (34, gf_xe3.x), (35, gf_x6.x), (36, gf_x4.x), (34, gf_xe3.x), (35, gf_x6.x), (36, gf_x4.x), (37, gf_xfd.x), (37, gf_xfd.x), (36, gf_x4.x), (37, gf_xfd.x), (23, gf_xd0.x), (35, gf_x6.x), (23, gf_xd0.x), (26, gf_xel.x), (23, gf_xd0.x), (26, gf_xel.x), (27, gf_xeu.x), (35, gf_x6.x), (36, gf_x4.x), (37, gf_xfd.x), (37, gf_xfd.x), (36, gf_x4.x), (37, gf_xfd.x), (35, gf_x6.x), (36, gf_x4.x), (37, gf_xfd.x), (23, gf_xd0.x), (27, gf_xeu.x)]) (.and mt_xn (.and mt_x6 (.and mt_x4 (.and mt_xe3 (.and mt_xe3 (.and mt_x4 (.and mt_xe3 (.and mt_x6 (.and mt_x4 (.and mt_xe3 (.and mt_x6 (.and mt_x4 (.and mt_xfd (.and mt_xfd (.and mt_x4 (.and mt_xfd (.and mt_xd0 (.and mt_x6 (.and mt_xd0 (.and mt_xel (.and mt_xd0 (.and mt_xel (.and mt_xeu (.and mt_x6 (.and mt_x4 (.and mt_xfd (.and mt_xfd (.and mt_x4 (.and mt_xfd (.and mt_x6 (.and mt_x4 (.and mt_xfd (.and mt_xd0 (.and mt_xeu .none))))))))))))))))))))))))))))))))))
end Go.Proofs.YtifcpnfmfagidaaGreat.fnExactLay
