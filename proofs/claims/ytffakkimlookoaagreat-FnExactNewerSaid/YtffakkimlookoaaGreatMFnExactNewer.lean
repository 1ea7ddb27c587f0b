/-
  The functions that the law FnExactNewer reaches are the texts that are shown.
-/
import Derived.Test.YtffakkimlookoaaGreatRows
import Derived.Test.YtffakkimlookoaaGreatKD
import Derived.Test.YtffakkimlookoaaGreatLF
import Derived.Test.YtffakkimlookoaaGreatLvE
import Derived.Test.YtffakkimlookoaaGreatPG
import Derived.WalkKit
import Derived.OpenShut
import Derived.JoinedCond
set_option linter.unusedVariables false
set_option linter.unusedSimpArgs false
namespace Go.Proofs.YtffakkimlookoaaGreat.fnExactNewer
open Go Lv Lv.P
set_option maxRecDepth 100000
abbrev M(n:Nat)(g:GF):Prop:=Mt (PA Tryz.prog) Tryz.prog n g.x
theorem MB {A P n fn f} {l:List (Nat×A5)} (h1:P.funcs[n]?=some fn) (h4:∀p∈l,Mt A P p.1 p.2) (h2:pC P fn f=true:=by kernel_rfl) (h3:Xt fn f=l:=by kernel_rfl):Mt A P n f:=Mt.by h1 h2 h3 h4
theorem Vk:M 71 K9:=MB Tryz.func71 (l:=[]) .none
theorem sF:M 17 YU:=MB Tryz.func17 (l:=[(71,K9.x),(71,K9.x),(71,K9.x)]) (.and Vk (.and Vk (.and Vk .none)))
theorem V4:M 72 LA:=MB Tryz.func72 (l:=[]) .none
theorem Yg:M 19 KW:=MB Tryz.func19 (l:=[(72,LA.x),(72,LA.x),(72,LA.x)]) (.and V4 (.and V4 (.and V4 .none)))
theorem jZ:M 94 VL:=MB Tryz.func94 (l:=[]) .none
theorem A6:M 65 Ak:=MB Tryz.func65 (l:=[]) .none
theorem jX:M 95 VJ:=MB Tryz.func95 (l:=[(65,Ak.x)]) (.and A6 .none)
theorem V6:M 142 NR:=MB Tryz.func142 (l:=[]) .none
theorem V7:M 92 NS:=MB Tryz.func92 (l:=[(142,NR.x)]) (.and V6 .none)
theorem Ck:M 54 Bl:=MB Tryz.func54 (l:=[]) .none
theorem Dc:M 53 CZ:=MB Tryz.func53 (l:=[(54,Bl.x),(65,Ak.x)]) (.and Ck (.and A6 .none))
theorem Dd:M 52 Ca:=MB Tryz.func52 (l:=[(54,Bl.x)]) (.and Ck .none)
theorem FF:M 64 Ds:=MB Tryz.func64 (l:=List.replicate 10 (65,Ak.x)++[]) (.rep 10 A6 .none)
theorem OQ:M 51 J1:=MB Tryz.func51 (l:=[(64,Ds.x)]) (.and FF .none)
theorem HL:M 62 E9:=MB Tryz.func62 (l:=[]) .none
theorem OR:M 55 J2:=MB Tryz.func55 (l:=[(52,Ca.x),(62,E9.x)]) (.and Dd (.and HL .none))
theorem HK:M 56 E8:=MB Tryz.func56 (l:=(64,Ds.x)::List.replicate 11 (65,Ak.x)++[]) (.and FF (.rep 11 A6 .none))
theorem LX:M 163 Hs:=MB Tryz.func163 (l:=[]) .none
theorem G6:M 124 Ev:=MB Tryz.func124 (l:=[(163,Hs.x)]) (.and LX .none)
theorem LO:M 58 Ho:=MB Tryz.func58 (l:=[(124,Ev.x)]) (.and G6 .none)
theorem OJ:M 122 Ju:=MB Tryz.func122 (l:=[]) .none
theorem HG:M 161 E5:=MB Tryz.func161 (l:=[]) .none
theorem LW:M 169 Hr:=MB Tryz.func169 (l:=[]) .none
theorem FG:M 162 Dt:=MB Tryz.func162 (l:=[(169,Hr.x),(65,Ak.x),(65,Ak.x),(163,Hs.x)]) (.and LW (.and A6 (.and A6 (.and LX .none))))
theorem HI:M 123 E7:=MB Tryz.func123 (l:=[(161,E5.x),(162,Dt.x),(124,Ev.x),(162,Dt.x),(161,E5.x)]) (.and HG (.and FG (.and G6 (.and FG (.and HG .none)))))
theorem OS:M 57 J3:=MB Tryz.func57 (l:=[(122,Ju.x),(123,E7.x),(123,E7.x)]) (.and OJ (.and HI (.and HI .none)))
theorem LP:M 59 Hp:=MB Tryz.func59 (l:=[(65,Ak.x)]) (.and A6 .none)
theorem G7:M 60 Ew:=MB Tryz.func60 (l:=[(65,Ak.x)]) (.and A6 .none)
theorem Wb:M 192 P9:=MB Tryz.func192 (l:=[(62,E9.x)]) (.and HL .none)
theorem Wc:M 164 QA:=MB Tryz.func164 (l:=[(56,E8.x),(192,P9.x)]) (.and HK (.and Wb .none))
theorem LY:M 125 Ht:=MB Tryz.func125 (l:=[(164,QA.x)]) (.and Wc .none)
theorem LV:M 165 Hq:=MB Tryz.func165 (l:=[]) .none
theorem LZ:M 166 Hu:=MB Tryz.func166 (l:=[]) .none
theorem Wd:M 126 QB:=MB Tryz.func126 (l:=[(165,Hq.x),(166,Hu.x),(166,Hu.x)]) (.and LV (.and LZ (.and LZ .none)))
theorem La:M 61 Hv:=MB Tryz.func61 (l:=[(125,Ht.x),(125,Ht.x),(126,QB.x)]) (.and LY (.and LY (.and Wd .none)))
theorem WU:M 66 P2:=MB Tryz.func66 (l:=[(56,E8.x)]) (.and HK .none)
theorem WV:M 127 P3:=MB Tryz.func127 (l:=[]) .none
theorem WW:M 67 P4:=MB Tryz.func67 (l:=[(65,Ak.x),(127,P3.x),(65,Ak.x)]) (.and A6 (.and WV (.and A6 .none)))
theorem WX:M 167 P5:=MB Tryz.func167 (l:=List.replicate 5 (65,Ak.x)++[]) (.rep 5 A6 .none)
theorem WY:M 193 P6:=MB Tryz.func193 (l:=[]) .none
theorem WZ:M 168 P7:=MB Tryz.func168 (l:=List.replicate 4 (65,Ak.x)++(165,Hq.x)::(193,P6.x)::[]) (.rep 4 A6 (.and LV (.and WY .none)))
theorem Wa:M 128 P8:=MB Tryz.func128 (l:=[(167,P5.x),(168,P7.x),(162,Dt.x)]) (.and WX (.and WZ (.and FG .none)))
theorem Vf:M 129 Pw:=MB Tryz.func129 (l:=[]) .none
theorem Vg:M 131 Px:=MB Tryz.func131 (l:=[(162,Dt.x),(169,Hr.x),(124,Ev.x)]) (.and FG (.and LW (.and G6 .none)))
theorem Vh:M 130 Py:=MB Tryz.func130 (l:=[]) .none
theorem Vi:M 68 Pz:=MB Tryz.func68 (l:=[(128,P8.x),(61,Hv.x),(129,Pw.x),(131,Px.x),(58,Ho.x),(130,Py.x),(59,Hp.x),(60,Ew.x)]) (.and Wa (.and La (.and Vf (.and Vg (.and LO (.and Vh (.and LP (.and G7 .none))))))))
theorem Vj:M 69 P0:=MB Tryz.func69 (l:=[]) .none
theorem H2:M 14 FU:=MB Tryz.func14 (l:=[(64,Ds.x),(65,Ak.x),(65,Ak.x),(66,P2.x),(67,P4.x),(68,Pz.x),(69,P0.x)]) (.and FF (.and A6 (.and A6 (.and WU (.and WW (.and Vi (.and Vj .none)))))))
theorem N9:M 98 Jj:=MB Tryz.func98 (l:=[(64,Ds.x)]) (.and FF .none)
theorem IG:M 36 Fe:=MB Tryz.func36 (l:=[(14,FU.x),(98,Jj.x)]) (.and H2 (.and N9 .none))
theorem OT:M 63 J4:=MB Tryz.func63 (l:=[]) .none
theorem OU:M 13 ID:=MB Tryz.func13 (l:=[(53,CZ.x),(52,Ca.x),(51,J1.x),(54,Bl.x),(54,Bl.x),(54,Bl.x),(53,CZ.x),(55,J2.x),(56,E8.x),(53,CZ.x),(58,Ho.x),(57,J3.x),(59,Hp.x),(60,Ew.x),(60,Ew.x),(61,Hv.x),(53,CZ.x),(52,Ca.x),(52,Ca.x),(62,E9.x),(14,FU.x),(36,Fe.x),(63,J4.x)]) (.and Dc (.and Dd (.and OQ (.and Ck (.and Ck (.and Ck (.and Dc (.and OR (.and HK (.and Dc (.and LO (.and OS (.and LP (.and G7 (.and G7 (.and La (.and Dc (.and Dd (.and Dd (.and HL (.and H2 (.and IG (.and OT .none)))))))))))))))))))))))
theorem Vm:M 179 M9:=MB Tryz.func179 (l:=[(65,Ak.x)]) (.and A6 .none)
theorem Vn:M 143 NA:=MB Tryz.func143 (l:=[(179,M9.x)]) (.and Vm .none)
theorem Vo:M 145 NB:=MB Tryz.func145 (l:=[]) .none
theorem Vp:M 144 NC:=MB Tryz.func144 (l:=[]) .none
theorem Vq:M 93 ND:=MB Tryz.func93 (l:=[(14,FU.x),(65,Ak.x),(36,Fe.x),(143,NA.x),(145,NB.x),(144,NC.x)]) (.and H2 (.and A6 (.and IG (.and Vn (.and Vo (.and Vp .none))))))
theorem WS:M 32 LB:=MB Tryz.func32 (l:=[(92,NS.x),(13,ID.x),(93,ND.x)]) (.and V7 (.and OU (.and Vq .none)))
theorem aL:M 33 LC:=MB Tryz.func33 (l:=[(94,VL.x),(95,VJ.x),(32,LB.x)]) (.and jZ (.and jX (.and WS .none)))
theorem xP:M 18 jN:=MB Tryz.func18 (l:=[(33,LC.x),(33,LC.x)]) (.and aL (.and aL .none))
theorem ja:M 96 VM:=MB Tryz.func96 (l:=[]) .none
theorem AV:M 41 AO:=MB Tryz.func41 (l:=[]) .none
theorem jY:M 97 VK:=MB Tryz.func97 (l:=[(41,AO.x)]) (.and AV .none)
theorem FE:M 76 DT:=MB Tryz.func76 (l:=[(41,AO.x)]) (.and AV .none)
theorem V8:M 134 NT:=MB Tryz.func134 (l:=[(41,AO.x),(76,DT.x)]) (.and AV (.and FE .none))
theorem V9:M 79 NU:=MB Tryz.func79 (l:=[(134,NT.x)]) (.and V8 .none)
theorem OH:M 40 Jr:=MB Tryz.func40 (l:=[]) .none
theorem Ec:M 48 DU:=MB Tryz.func48 (l:=[]) .none
theorem Ci:M 109 Bj:=MB Tryz.func109 (l:=List.replicate 10 (41,AO.x)++[]) (.rep 10 AV .none)
theorem OL:M 42 Jw:=MB Tryz.func42 (l:=[(48,DU.x),(48,DU.x),(109,Bj.x)]) (.and Ec (.and Ec (.and Ci .none)))
theorem B4:M 120 BY:=MB Tryz.func120 (l:=[(41,AO.x)]) (.and AV .none)
theorem EZ:M 117 DQ:=MB Tryz.func117 (l:=[(109,Bj.x),(41,AO.x),(41,AO.x),(120,BY.x),(41,AO.x),(41,AO.x),(120,BY.x),(41,AO.x),(41,AO.x),(120,BY.x),(41,AO.x),(41,AO.x)]) (.and Ci (.and AV (.and AV (.and B4 (.and AV (.and AV (.and B4 (.and AV (.and AV (.and B4 (.and AV (.and AV .none))))))))))))
theorem N5:M 181 Jf:=MB Tryz.func181 (l:=[(109,Bj.x),(120,BY.x)]) (.and Ci (.and B4 .none))
theorem N6:M 148 Jg:=MB Tryz.func148 (l:=[(117,DQ.x),(181,Jf.x)]) (.and EZ (.and N5 .none))
theorem N7:M 110 Jh:=MB Tryz.func110 (l:=[(117,DQ.x),(148,Jg.x)]) (.and EZ (.and N6 .none))
theorem HC:M 182 E1:=MB Tryz.func182 (l:=[]) .none
theorem Ea:M 211 DR:=MB Tryz.func211 (l:=[]) .none
theorem N8:M 201 Ji:=MB Tryz.func201 (l:=[(211,DR.x),(211,DR.x),(211,DR.x)]) (.and Ea (.and Ea (.and Ea .none)))
theorem DW:(k:Nat)->Mt (PA Tryz.prog) Tryz.prog 183 (Ek k).x
 |0=>.Fo (.inr ⟨rfl,_,Tryz.func183,by kernel_rfl,by kernel_rfl⟩)
 |k+1=>MB (f:=(RI (Ek k)).x) Tryz.func183 (l:=[(201,Ji.x),(183,(Ek k).x),(183,(Ek k).x)]) (.and N8 (.and (DW k) (.and (DW k) .none)))
theorem HD:M 183 E2:=DW 7
theorem Np:M 149 JQ:=MB Tryz.func149 (l:=[(182,E1.x),(182,E1.x),(183,E2.x),(183,E2.x)]) (.and HC (.and HC (.and HD (.and HD .none))))
theorem Nq:M 111 JR:=MB Tryz.func111 (l:=[(149,JQ.x)]) (.and Np .none)
theorem G9:M 184 Ez:=MB Tryz.func184 (l:=[]) .none
theorem DY:M 150 CW:=MB Tryz.func150 (l:=[(184,Ez.x),(184,Ez.x)]) (.and G9 (.and G9 .none))
theorem HA:M 112 B3:=MB Tryz.func112 (l:=[(150,CW.x),(150,CW.x)]) (.and DY (.and DY .none))
theorem G8:M 43 Ey:=MB Tryz.func43 (l:=[(110,Jh.x),(111,JR.x),(112,B3.x)]) (.and N7 (.and Nq (.and HA .none)))
theorem Db:M 44 CY:=MB Tryz.func44 (l:=[(41,AO.x)]) (.and AV .none)
theorem Cj:M 45 Bk:=MB Tryz.func45 (l:=[(41,AO.x)]) (.and AV .none)
theorem EY:M 187 DP:=MB Tryz.func187 (l:=[]) .none
theorem Eb:M 213 DS:=MB Tryz.func213 (l:=[]) .none
theorem OA:M 203 Jk:=MB Tryz.func203 (l:=[(213,DS.x),(213,DS.x),(213,DS.x)]) (.and Eb (.and Eb (.and Eb .none)))
theorem DX:(k:Nat)->Mt (PA Tryz.prog) Tryz.prog 188 (El k).x
 |0=>.Fo (.inr ⟨rfl,_,Tryz.func188,by kernel_rfl,by kernel_rfl⟩)
 |k+1=>MB (f:=(RJ (El k)).x) Tryz.func188 (l:=[(203,Jk.x),(188,(El k).x),(188,(El k).x)]) (.and OA (.and (DX k) (.and (DX k) .none)))
theorem HE:M 188 E3:=DX 7
theorem OB:M 155 Jl:=MB Tryz.func155 (l:=[(187,DP.x),(187,DP.x),(188,E3.x),(188,E3.x)]) (.and EY (.and EY (.and HE (.and HE .none))))
theorem OC:M 115 Jm:=MB Tryz.func115 (l:=[(155,Jl.x)]) (.and OB .none)
theorem DZ:M 116 BG:=MB Tryz.func116 (l:=[(150,CW.x),(150,CW.x)]) (.and DY (.and DY .none))
theorem HF:M 47 E4:=MB Tryz.func47 (l:=[(115,Jm.x),(116,BG.x)]) (.and OC (.and DZ .none))
theorem OK:M 113 Jv:=MB Tryz.func113 (l:=[]) .none
theorem HH:M 151 E6:=MB Tryz.func151 (l:=[]) .none
theorem HB:M 153 E0:=MB Tryz.func153 (l:=[(41,AO.x),(41,AO.x)]) (.and AV (.and AV .none))
theorem Da:M 152 CX:=MB Tryz.func152 (l:=[(153,E0.x),(116,BG.x)]) (.and HB (.and DZ .none))
def Ad:Go.Shelf.Ren:=⟨fun|29=>185|30=>186|n=>n,fun|0=>0|3=>3|4=>4|9=>134|24=>85|n=>n,fun n=>n⟩
theorem Aw:Oi Tryz.prog Ad 154 2 where
 mixed:=by kernel_rfl
 f22:=⟨"slices.Insert[[]loop.example/g00494/impl.Pin,loop.example/g00494/impl.Pin]",by decide,Tryz.func154.trans (congrArg some (by kernel_rfl))⟩
 ov:=fun args w=>Go.run_callFunc_extern Tryz.func185 (by kernel_rfl) (by kernel_rfl) (by kernel_rfl) (by kernel_rfl) args w
 t3:=Tryz.underlying3
 a3:=Tryz.isAgg3
 z3:=Tryz.sizeOf3
 t4:=Tryz.underlying4
 a4:=Tryz.isAgg4
 t24:=Tryz.underlying85
 a24:=Tryz.isAgg85
 z9:=Tryz.sizeOf134
 el:=by kernel_rfl
 gr:=by kernel_rfl
 two:=by decide
theorem OM:M 154 Jx:=.Fo (.inl ⟨Ad,2,Aw,rfl,rfl⟩)
theorem ON:M 114 Jy:=MB Tryz.func114 (l:=[(151,E6.x),(152,CX.x),(153,E0.x),(116,BG.x),(154,Jx.x),(152,CX.x),(151,E6.x)]) (.and HH (.and Da (.and HB (.and DZ (.and OM (.and Da (.and HH .none)))))))
theorem OO:M 46 Jz:=MB Tryz.func46 (l:=[(113,Jv.x),(114,Jy.x)]) (.and OK (.and ON .none))
theorem Nx:M 118 JY:=MB Tryz.func118 (l:=[]) .none
theorem Ny:M 189 JZ:=MB Tryz.func189 (l:=List.replicate 5 (41,AO.x)++[]) (.rep 5 AV .none)
theorem Nz:M 204 Ja:=MB Tryz.func204 (l:=[(112,B3.x)]) (.and HA .none)
theorem N0:M 215 G0:=MB Tryz.func215 (l:=[]) .none
theorem N1:M 214 Jb:=MB Tryz.func214 (l:=[]) .none
theorem N2:M 205 Jc:=MB Tryz.func205 (l:=[(215,G0.x),(214,Jb.x)]) (.and N0 (.and N1 .none))
theorem N3:M 190 Jd:=MB Tryz.func190 (l:=[(204,Ja.x),(205,Jc.x),(120,BY.x),(41,AO.x),(41,AO.x),(41,AO.x)]) (.and Nz (.and N2 (.and B4 (.and AV (.and AV (.and AV .none))))))
theorem N4:M 156 Je:=MB Tryz.func156 (l:=[(189,JZ.x),(190,Jd.x),(152,CX.x)]) (.and Ny (.and N3 (.and Da .none)))
theorem Nr:M 157 JS:=MB Tryz.func157 (l:=[]) .none
theorem Ns:M 224 JT:=MB Tryz.func224 (l:=[]) .none
theorem Nt:M 207 JU:=MB Tryz.func207 (l:=[(224,JT.x)]) (.and Ns .none)
theorem Nu:M 206 JV:=MB Tryz.func206 (l:=[(187,DP.x)]) (.and EY .none)
theorem Nv:M 191 JW:=MB Tryz.func191 (l:=[(207,JU.x),(206,JV.x)]) (.and Nt (.and Nu .none))
theorem Nw:M 159 JX:=MB Tryz.func159 (l:=[(152,CX.x),(191,JW.x),(116,BG.x)]) (.and Da (.and Nv (.and DZ .none)))
theorem OD:M 158 Jn:=MB Tryz.func158 (l:=[]) .none
theorem OE:M 119 Jo:=MB Tryz.func119 (l:=[(156,Je.x),(43,Ey.x),(157,JS.x),(159,JX.x),(47,E4.x),(158,Jn.x),(44,CY.x),(45,Bk.x)]) (.and N4 (.and G8 (.and Nr (.and Nw (.and HF (.and OD (.and Db (.and Cj .none))))))))
theorem OF:M 160 Jp:=MB Tryz.func160 (l:=[]) .none
theorem OG:M 121 Jq:=MB Tryz.func121 (l:=[(160,Jp.x)]) (.and OF .none)
theorem D5:M 49 Cv:=MB Tryz.func49 (l:=[(109,Bj.x),(41,AO.x),(41,AO.x),(117,DQ.x),(118,JY.x),(119,Jo.x),(120,BY.x),(121,Jq.x),(41,AO.x)]) (.and Ci (.and AV (.and AV (.and EZ (.and Nx (.and OE (.and B4 (.and OG (.and AV .none)))))))))
theorem Fi:M 70 Dz:=MB Tryz.func70 (l:=[(109,Bj.x)]) (.and Ci .none)
theorem OI:M 16 Js:=MB Tryz.func16 (l:=[(49,Cv.x),(70,Dz.x)]) (.and D5 (.and Fi .none))
theorem OP:M 50 J0:=MB Tryz.func50 (l:=[]) .none
theorem LU:M 12 GA:=MB Tryz.func12 (l:=[(40,Jr.x),(41,AO.x),(42,Jw.x),(41,AO.x),(43,Ey.x),(44,CY.x),(45,Bk.x),(45,Bk.x),(44,CY.x),(45,Bk.x),(44,CY.x),(45,Bk.x),(47,E4.x),(46,Jz.x),(41,AO.x),(48,DU.x),(49,Cv.x),(16,Js.x),(50,J0.x)]) (.and OH (.and AV (.and OL (.and AV (.and G8 (.and Db (.and Cj (.and Cj (.and Db (.and Cj (.and Db (.and Cj (.and HF (.and OO (.and AV (.and Ec (.and D5 (.and OI (.and OP .none)))))))))))))))))))
theorem WA:M 16 NV:=MB Tryz.func16 (l:=[(49,Cv.x),(70,Dz.x)]) (.and D5 (.and Fi .none))
theorem LR:M 77 G1:=MB Tryz.func77 (l:=[(76,DT.x)]) (.and FE .none)
theorem LS:M 78 G2:=MB Tryz.func78 (l:=[]) .none
theorem WB:M 22 Z5:=MB Tryz.func22 (l:=[(16,NV.x),(41,AO.x),(76,DT.x),(77,G1.x),(78,G2.x)]) (.and WA (.and AV (.and FE (.and LR (.and LS .none)))))
theorem WC:M 16 NW:=MB Tryz.func16 (l:=[(49,Cv.x),(70,Dz.x)]) (.and D5 (.and Fi .none))
theorem sG:M 22 Z6:=MB Tryz.func22 (l:=[(16,NW.x),(41,AO.x),(76,DT.x),(77,G1.x),(78,G2.x)]) (.and WC (.and AV (.and FE (.and LR (.and LS .none)))))
theorem WD:M 22 NX:=WB
theorem Rb:M 23 IE:=MB Tryz.func23 (l:=[(79,NU.x),(12,GA.x),(22,NX.x)]) (.and V9 (.and LU (.and WD .none)))
theorem WT:M 34 IF:=MB Tryz.func34 (l:=[(96,VM.x),(97,VK.x),(23,IE.x)]) (.and ja (.and jY (.and Rb .none)))
theorem xQ:M 20 jO:=MB Tryz.func20 (l:=[(34,IF.x),(34,IF.x)]) (.and WT (.and WT .none))
theorem LN:M 4 Cw:=MB Tryz.func4 (l:=[(17,YU.x),(19,KW.x),(18,jN.x),(19,KW.x),(20,jO.x)]) (.and sF (.and Yg (.and xP (.and Yg (.and xQ .none)))))
end Go.Proofs.YtffakkimlookoaaGreat.fnExactNewer
