/-
  The functions that the law FnOffersFold reaches are the texts that are shown.
-/
import Derived.Test.YthnbolemafdhfaaGreatRows
import Derived.Test.YthnbolemafdhfaaGreatKE
import Derived.Test.YthnbolemafdhfaaGreatLvE
import Derived.Test.YthnbolemafdhfaaGreatPN
import Derived.WalkKit
import Derived.OpenShut
import Derived.JoinedCond
set_option linter.unusedVariables false
set_option linter.unusedSimpArgs false
set_option linter.unusedSectionVars false
namespace Go.Proofs.YthnbolemafdhfaaGreat.fnOffersFold
open Go Lv Lv.P
set_option maxRecDepth 100000
abbrev M(n:Nat)(g:GF):Prop:=Mt (fun _ _ _=>False) Tryz.prog n g.x
theorem MB {A P n fn f} {l:List (Nat×BJ)} (h1:P.funcs[n]?=some fn) (h4:∀p∈l,Mt A P p.1 p.2) (h2:xS P fn f=true:=by kernel_rfl) (h3:jh fn f=l:=by kernel_rfl):Mt A P n f:=Mt.by h1 h2 h3 h4
theorem gM:M 5 PO:=MB Tryz.func5 (l:=[]) .none
theorem gN:M 14 Sw:=MB Tryz.func14 (l:=[]) .none
theorem gO:M 40 JE:=MB Tryz.func40 (l:=[]) .none
theorem AX:M 19 AJ:=MB Tryz.func19 (l:=List.replicate 5 (40,JE.x)++[]) (.rep 5 gO .none)
theorem Bs:M 16 BD:=MB Tryz.func16 (l:=[(19,AJ.x)]) (.and AX .none)
theorem T3:M 33 Ka:=MB Tryz.func33 (l:=List.replicate 10 (19,AJ.x)++[]) (.rep 10 AX .none)
theorem Bv:M 26 Ax:=MB Tryz.func26 (l:=[]) .none
theorem OH:M 25 Hd:=MB Tryz.func25 (l:=List.replicate 10 (26,Ax.x)++[]) (.rep 10 Bv .none)
theorem cy:M 41 QH:=MB Tryz.func41 (l:=[]) .none
theorem OI:M 91 He:=MB Tryz.func91 (l:=List.replicate 5 (26,Ax.x)++[]) (.rep 5 Bv .none)
theorem sE:M 100 cI:=MB Tryz.func100 (l:=[(91,He.x)]) (.and OI .none)
theorem Tx:M 98 KU:=MB Tryz.func98 (l:=[]) .none
theorem gH:M 68 Ss:=MB Tryz.func68 (l:=[(100,cI.x),(98,KU.x)]) (.and sE (.and Tx .none))
theorem T2:M 32 KZ:=MB Tryz.func32 (l:=[(25,Hd.x),(41,QH.x),(68,Ss.x)]) (.and OH (.and cy (.and gH .none)))
theorem T4:M 61 Kb:=MB Tryz.func61 (l:=List.replicate 27 (19,AJ.x)++(26,Ax.x)::(19,AJ.x)::(16,BD.x)::(19,AJ.x)::(16,BD.x)::(19,AJ.x)::(16,BD.x)::(19,AJ.x)::[]) (.rep 27 AX (.and Bv (.and AX (.and Bs (.and AX (.and Bs (.and AX (.and Bs (.and AX .none)))))))))
theorem gK:M 62 Sv:=MB Tryz.func62 (l:=[]) .none
theorem JQ:M 63 E3:=MB Tryz.func63 (l:=[]) .none
theorem OG:M 30 Hc:=MB Tryz.func30 (l:=[]) .none
theorem Tt:M 59 KS:=MB Tryz.func59 (l:=[(26,Ax.x)]) (.and Bv .none)
theorem Tv:M 60 KT:=MB Tryz.func60 (l:=[(26,Ax.x)]) (.and Bv .none)
theorem gP:M 64 Sx:=MB Tryz.func64 (l:=[(59,KS.x),(60,KT.x)]) (.and Tt (.and Tv .none))
theorem G7:M 65 EF:=MB Tryz.func65 (l:=[(63,E3.x)]) (.and JQ .none)
theorem dD:M 119 QL:=MB Tryz.func119 (l:=[]) .none
theorem UN:M 97 Kv:=MB Tryz.func97 (l:=[(119,QL.x)]) (.and dD .none)
theorem dF:M 58 QN:=MB Tryz.func58 (l:=[(97,Kv.x)]) (.and UN .none)
theorem JP:M 75 E2:=MB Tryz.func75 (l:=[]) .none
theorem dC:M 96 QK:=MB Tryz.func96 (l:=[]) .none
theorem K5:M 93 F3:=MB Tryz.func93 (l:=[(96,QK.x),(26,Ax.x),(26,Ax.x),(119,QL.x)]) (.and dC (.and Bv (.and Bv (.and dD .none))))
theorem JR:M 99 E4:=MB Tryz.func99 (l:=[(75,E2.x),(93,F3.x),(97,Kv.x),(93,F3.x),(75,E2.x)]) (.and JP (.and K5 (.and UN (.and K5 (.and JP .none)))))
theorem Cu:M 73 Bm:=MB Tryz.func73 (l:=[]) .none
theorem T8:M 51 Kg:=MB Tryz.func51 (l:=(25,Hd.x)::List.replicate 11 (26,Ax.x)++[]) (.and OH (.rep 11 Bv .none))
theorem sJ:M 126 cM:=MB Tryz.func126 (l:=[(73,Bm.x)]) (.and Cu .none)
theorem sK:M 120 cN:=MB Tryz.func120 (l:=[(51,Kg.x),(126,cM.x)]) (.and T8 (.and sJ .none))
theorem UK:M 94 Ks:=MB Tryz.func94 (l:=[(120,cN.x)]) (.and sK .none)
theorem dA:M 118 QI:=MB Tryz.func118 (l:=[]) .none
theorem Ia:M 74 Es:=MB Tryz.func74 (l:=[]) .none
theorem UL:M 95 Kt:=MB Tryz.func95 (l:=[(118,QI.x),(74,Es.x),(74,Es.x)]) (.and dA (.and Ia (.and Ia .none)))
theorem UM:M 55 Ku:=MB Tryz.func55 (l:=[(94,Ks.x),(94,Ks.x),(95,Kt.x)]) (.and UK (.and UK (.and UL .none)))
theorem gQ:M 66 Sy:=MB Tryz.func66 (l:=[(98,KU.x),(58,QN.x),(99,E4.x),(59,KS.x),(60,KT.x),(73,Bm.x),(55,Ku.x)]) (.and Tx (.and dF (.and JR (.and Tt (.and Tv (.and Cu (.and UM .none)))))))
theorem UI:M 52 Kq:=MB Tryz.func52 (l:=[]) .none
theorem Fc:M 67 DU:=MB Tryz.func67 (l:=[(52,Kq.x)]) (.and UI .none)
theorem T5:M 31 Kc:=MB Tryz.func31 (l:=[(33,Ka.x),(32,KZ.x),(19,AJ.x),(19,AJ.x),(61,Kb.x),(19,AJ.x),(19,AJ.x),(19,AJ.x),(62,Sv.x),(63,E3.x),(30,Hc.x),(64,Sx.x),(65,EF.x),(19,AJ.x),(66,Sy.x),(16,BD.x),(67,DU.x),(16,BD.x),(19,AJ.x)]) (.and T3 (.and T2 (.and AX (.and AX (.and T4 (.and AX (.and AX (.and AX (.and gK (.and JQ (.and OG (.and gP (.and G7 (.and AX (.and gQ (.and Bs (.and Fc (.and Bs (.and AX .none)))))))))))))))))))
theorem gk:M 15 TH:=MB Tryz.func15 (l:=[(16,BD.x),(31,Kc.x),(33,Ka.x),(32,KZ.x)]) (.and Bs (.and T5 (.and T3 (.and T2 .none))))
theorem Dk:M 34 B9:=MB Tryz.func34 (l:=[(19,AJ.x)]) (.and AX .none)
theorem gT:M 35 S4:=MB Tryz.func35 (l:=[(25,Hd.x),(61,Kb.x),(34,B9.x),(19,AJ.x),(34,B9.x)]) (.and OH (.and T4 (.and Dk (.and AX (.and Dk .none)))))
theorem T7:M 101 Kf:=MB Tryz.func101 (l:=List.replicate 4 (19,AJ.x)++[]) (.rep 4 AX .none)
theorem gU:M 69 S5:=MB Tryz.func69 (l:=[(101,Kf.x),(34,B9.x),(19,AJ.x)]) (.and T7 (.and Dk (.and AX .none)))
theorem Ty:M 103 KV:=MB Tryz.func103 (l:=List.replicate 4 (19,AJ.x)++(34,B9.x)::(19,AJ.x)::[]) (.rep 4 AX (.and Dk (.and AX .none)))
theorem dB:M 110 QJ:=MB Tryz.func110 (l:=[]) .none
theorem UJ:M 92 Kr:=MB Tryz.func92 (l:=List.replicate 4 (26,Ax.x)++(118,QI.x)::(110,QJ.x)::[]) (.rep 4 Bv (.and dA (.and dB .none)))
theorem gA:M 121 Sl:=MB Tryz.func121 (l:=[(95,Kt.x),(92,Kr.x),(92,Kr.x),(74,Es.x)]) (.and UL (.and UJ (.and UJ (.and Ia .none))))
theorem Tz:M 102 KW:=MB Tryz.func102 (l:=[(19,AJ.x),(16,BD.x),(19,AJ.x),(103,KV.x),(121,Sl.x)]) (.and AX (.and Bs (.and AX (.and Ty (.and gA .none)))))
theorem gB:M 70 Sn:=MB Tryz.func70 (l:=[(102,KW.x),(19,AJ.x),(103,KV.x)]) (.and Tz (.and AX (.and Ty .none)))
theorem T0:M 105 KX:=MB Tryz.func105 (l:=[(19,AJ.x),(19,AJ.x),(19,AJ.x),(34,B9.x),(34,B9.x)]) (.and AX (.and AX (.and AX (.and Dk (.and Dk .none)))))
theorem gC:M 122 So:=MB Tryz.func122 (l:=[(19,AJ.x),(105,KX.x)]) (.and AX (.and T0 .none))
theorem T1:M 104 KY:=MB Tryz.func104 (l:=[(98,KU.x),(122,So.x),(16,BD.x),(99,E4.x)]) (.and Tx (.and gC (.and Bs (.and JR .none))))
theorem gD:M 71 Sp:=MB Tryz.func71 (l:=[(104,KY.x),(19,AJ.x),(19,AJ.x),(105,KX.x),(19,AJ.x)]) (.and T1 (.and AX (.and AX (.and T0 (.and AX .none)))))
theorem gF:M 72 Sq:=MB Tryz.func72 (l:=[(101,Kf.x),(102,KW.x),(104,KY.x)]) (.and T7 (.and Tz (.and T1 .none)))
theorem gG:M 36 Sr:=MB Tryz.func36 (l:=[(16,BD.x),(69,S5.x),(70,Sn.x),(71,Sp.x),(72,Sq.x)]) (.and Bs (.and gU (.and gB (.and gD (.and gF .none)))))
theorem gj:M 17 TG:=MB Tryz.func17 (l:=[(31,Kc.x),(34,B9.x),(19,AJ.x),(35,S4.x),(36,Sr.x)]) (.and T5 (.and Dk (.and AX (.and gT (.and gG .none)))))
theorem gl:M 20 TI:=MB Tryz.func20 (l:=[]) .none
theorem T6:M 37 Ke:=MB Tryz.func37 (l:=[(19,AJ.x),(16,BD.x),(19,AJ.x),(73,Bm.x),(19,AJ.x),(19,AJ.x),(19,AJ.x),(73,Bm.x),(19,AJ.x),(73,Bm.x),(19,AJ.x),(19,AJ.x),(73,Bm.x),(19,AJ.x),(19,AJ.x),(73,Bm.x),(19,AJ.x),(73,Bm.x),(19,AJ.x),(73,Bm.x),(19,AJ.x),(19,AJ.x),(73,Bm.x),(19,AJ.x),(73,Bm.x),(19,AJ.x),(19,AJ.x),(19,AJ.x),(73,Bm.x),(19,AJ.x),(73,Bm.x),(19,AJ.x),(16,BD.x),(19,AJ.x),(19,AJ.x),(19,AJ.x),(73,Bm.x),(19,AJ.x)]) (.and AX (.and Bs (.and AX (.and Cu (.and AX (.and AX (.and AX (.and Cu (.and AX (.and Cu (.and AX (.and AX (.and Cu (.and AX (.and AX (.and Cu (.and AX (.and Cu (.and AX (.and Cu (.and AX (.and AX (.and Cu (.and AX (.and Cu (.and AX (.and AX (.and AX (.and Cu (.and AX (.and Cu (.and AX (.and Bs (.and AX (.and AX (.and AX (.and Cu (.and AX .none))))))))))))))))))))))))))))))))))))))
theorem gm:M 38 TJ:=MB Tryz.func38 (l:=[(16,BD.x),(34,B9.x),(16,BD.x),(73,Bm.x),(19,AJ.x)]) (.and Bs (.and Dk (.and Bs (.and Cu (.and AX .none)))))
theorem gR:M 39 Sz:=MB Tryz.func39 (l:=[(37,Ke.x),(34,B9.x),(19,AJ.x)]) (.and T6 (.and Dk (.and AX .none)))
theorem gJ:M 42 Su:=MB Tryz.func42 (l:=[(74,Es.x),(75,E2.x)]) (.and Ia (.and JP .none))
theorem C9:M 21 Bu:=MB Tryz.func21 (l:=List.replicate 65 (41,QH.x)++(42,Su.x)::[]) (.rep 65 cy (.and gJ .none))
theorem sF:M 27 cJ:=MB Tryz.func27 (l:=[(51,Kg.x)]) (.and T8 .none)
theorem sH:M 28 cK:=MB Tryz.func28 (l:=[(26,Ax.x),(52,Kq.x),(26,Ax.x)]) (.and Bv (.and UI (.and Bv .none)))
theorem sI:M 53 cL:=MB Tryz.func53 (l:=[(91,He.x),(92,Kr.x),(93,F3.x)]) (.and OI (.and UJ (.and K5 .none)))
theorem sL:M 54 cO:=MB Tryz.func54 (l:=[]) .none
theorem dE:M 57 QM:=MB Tryz.func57 (l:=[(93,F3.x),(96,QK.x),(97,Kv.x)]) (.and K5 (.and dC (.and UN .none)))
theorem sM:M 56 cP:=MB Tryz.func56 (l:=[]) .none
theorem sC:M 29 cG:=MB Tryz.func29 (l:=[(53,cL.x),(55,Ku.x),(54,cO.x),(57,QM.x),(58,QN.x),(56,cP.x),(59,KS.x),(60,KT.x)]) (.and sI (.and UM (.and sL (.and dE (.and dF (.and sM (.and Tt (.and Tv .none))))))))
theorem Ws:M 10 MT:=MB Tryz.func10 (l:=[(25,Hd.x),(26,Ax.x),(26,Ax.x),(27,cJ.x),(28,cK.x),(29,cG.x),(30,Hc.x)]) (.and OH (.and Bv (.and Bv (.and sF (.and sH (.and sC (.and OG .none)))))))
theorem Tw:M 106 G1:=MB Tryz.func106 (l:=[(26,Ax.x)]) (.and Bv .none)
theorem sD:M 76 cH:=MB Tryz.func76 (l:=(106,G1.x)::(106,G1.x)::(26,Ax.x)::List.replicate 5 (106,G1.x)++[]) (.and Tw (.and Tw (.and Bv (.rep 5 Tw .none))))
theorem CA:M 78 BU:=MB Tryz.func78 (l:=[(63,E3.x)]) (.and JQ .none)
theorem UA:M 79 Ki:=MB Tryz.func79 (l:=[]) .none
theorem gn:M 77 TK:=MB Tryz.func77 (l:=[(26,Ax.x),(26,Ax.x),(78,BU.x),(30,Hc.x),(79,Ki.x)]) (.and Bv (.and Bv (.and CA (.and OG (.and UA .none)))))
theorem gp:M 107 TL:=MB Tryz.func107 (l:=[]) .none
theorem gq:M 80 TM:=MB Tryz.func80 (l:=[(78,BU.x),(107,TL.x)]) (.and CA (.and gp .none))
theorem EK:M 43 CT:=MB Tryz.func43 (l:=[(10,MT.x),(26,Ax.x),(76,cH.x),(77,TK.x),(78,BU.x),(26,Ax.x),(79,Ki.x),(80,TM.x)]) (.and Ws (.and Bv (.and sD (.and gn (.and CA (.and Bv (.and UA (.and gq .none))))))))
theorem UB:M 81 Kj:=MB Tryz.func81 (l:=[(94,Ks.x),(95,Kt.x)]) (.and UK (.and UL .none))
theorem Fe:M 108 DV:=MB Tryz.func108 (l:=[(91,He.x),(26,Ax.x),(91,He.x)]) (.and OI (.and Bv (.and OI .none)))
theorem gr:M 82 TN:=MB Tryz.func82 (l:=[(108,DV.x)]) (.and Fe .none)
theorem gu:M 44 TO:=MB Tryz.func44 (l:=[(21,Bu.x),(43,CT.x),(65,EF.x),(81,Kj.x),(82,TN.x),(67,DU.x)]) (.and C9 (.and EK (.and G7 (.and UB (.and gr (.and Fc .none))))))
theorem gv:M 109 TP:=MB Tryz.func109 (l:=[(108,DV.x)]) (.and Fe .none)
theorem UC:M 88 Kk:=MB Tryz.func88 (l:=[(75,E2.x),(93,F3.x)]) (.and JP (.and K5 .none))
theorem UD:M 83 Kl:=MB Tryz.func83 (l:=[(109,TP.x),(88,Kk.x)]) (.and gv (.and UC .none))
theorem My:M 84 G2:=MB Tryz.func84 (l:=[(110,QJ.x),(74,Es.x),(74,Es.x)]) (.and dB (.and Ia (.and Ia .none)))
theorem gw:M 111 TQ:=MB Tryz.func111 (l:=[(63,E3.x)]) (.and JQ .none)
theorem gx:M 112 TR:=MB Tryz.func112 (l:=[(108,DV.x)]) (.and Fe .none)
theorem Mz:M 85 G3:=MB Tryz.func85 (l:=[(111,TQ.x),(112,TR.x)]) (.and gw (.and gx .none))
theorem gy:M 45 TS:=MB Tryz.func45 (l:=[(21,Bu.x),(43,CT.x),(78,BU.x),(78,BU.x),(83,Kl.x),(67,DU.x),(84,G2.x),(85,G3.x)]) (.and C9 (.and EK (.and CA (.and CA (.and UD (.and Fc (.and My (.and Mz .none))))))))
theorem gz:M 113 TT:=MB Tryz.func113 (l:=[(108,DV.x)]) (.and Fe .none)
theorem UE:M 86 Km:=MB Tryz.func86 (l:=[(113,TT.x),(67,DU.x)]) (.and gz (.and Fc .none))
theorem g9:M 46 TU:=MB Tryz.func46 (l:=[(21,Bu.x),(43,CT.x),(86,Km.x)]) (.and C9 (.and EK (.and UE .none)))
theorem hH:M 87 TV:=MB Tryz.func87 (l:=[(108,DV.x)]) (.and Fe .none)
theorem gV:M 47 S6:=MB Tryz.func47 (l:=[(21,Bu.x),(43,CT.x),(78,BU.x),(78,BU.x),(87,TV.x),(88,Kk.x),(85,G3.x),(86,Km.x)]) (.and C9 (.and EK (.and CA (.and CA (.and hH (.and UC (.and Mz (.and UE .none))))))))
theorem gW:M 114 S7:=MB Tryz.func114 (l:=[(51,Kg.x)]) (.and T8 .none)
theorem T9:M 89 Kh:=MB Tryz.func89 (l:=[(83,Kl.x),(114,S7.x),(85,G3.x),(65,EF.x),(81,Kj.x)]) (.and UD (.and gW (.and Mz (.and G7 (.and UB .none)))))
theorem gX:M 48 S8:=MB Tryz.func48 (l:=[(21,Bu.x),(43,CT.x),(78,BU.x),(78,BU.x),(89,Kh.x),(67,DU.x)]) (.and C9 (.and EK (.and CA (.and CA (.and T9 (.and Fc .none))))))
theorem gY:M 49 S9:=MB Tryz.func49 (l:=[(21,Bu.x),(43,CT.x),(55,Ku.x),(30,Hc.x),(67,DU.x)]) (.and C9 (.and EK (.and UM (.and OG (.and Fc .none)))))
theorem gZ:M 115 TB:=MB Tryz.func115 (l:=[(10,MT.x),(26,Ax.x)]) (.and Ws (.and Bv .none))
theorem ga:M 127 TC:=MB Tryz.func127 (l:=[(57,QM.x)]) (.and dE .none)
theorem gb:M 123 TD:=MB Tryz.func123 (l:=[(127,TC.x)]) (.and ga .none)
theorem gh:M 116 TE:=MB Tryz.func116 (l:=[(123,TD.x),(78,BU.x),(89,Kh.x)]) (.and gb (.and CA (.and T9 .none)))
theorem gi:M 128 TF:=MB Tryz.func128 (l:=[]) .none
theorem iA:M 129 TW:=MB Tryz.func129 (l:=[(52,Kq.x)]) (.and UI .none)
theorem UF:M 124 Kn:=MB Tryz.func124 (l:=[(128,TF.x),(129,TW.x)]) (.and gi (.and iA .none))
theorem UG:M 125 Ko:=MB Tryz.func125 (l:=[(108,DV.x)]) (.and Fe .none)
theorem iB:M 117 TX:=MB Tryz.func117 (l:=[(124,Kn.x),(78,BU.x),(78,BU.x),(65,EF.x),(125,Ko.x),(84,G2.x),(99,E4.x)]) (.and UF (.and CA (.and CA (.and G7 (.and UG (.and My (.and JR .none)))))))
theorem iC:M 117 TY:=MB Tryz.func117 (l:=[(124,Kn.x),(78,BU.x),(78,BU.x),(65,EF.x),(125,Ko.x),(84,G2.x),(99,E4.x)]) (.and UF (.and CA (.and CA (.and G7 (.and UG (.and My (.and JR .none)))))))
theorem iD:M 90 TZ:=MB Tryz.func90 (l:=[(21,Bu.x),(115,TB.x),(116,TE.x),(117,TX.x),(117,TY.x)]) (.and C9 (.and gZ (.and gh (.and iB (.and iC .none)))))
theorem iE:M 50 Ta:=MB Tryz.func50 (l:=[(21,Bu.x),(43,CT.x),(90,TZ.x)]) (.and C9 (.and EK (.and iD .none)))
theorem UH:M 22 GC:=MB Tryz.func22 (l:=[(21,Bu.x),(43,CT.x),(44,TO.x),(45,TS.x),(46,TU.x),(47,S6.x),(48,S8.x),(49,S9.x),(50,Ta.x)]) (.and C9 (.and EK (.and gu (.and gy (.and g9 (.and gV (.and gX (.and gY (.and iE .none)))))))))
theorem iF:M 18 Tb:=MB Tryz.func18 (l:=[(37,Ke.x),(16,BD.x),(38,TJ.x),(16,BD.x),(39,Sz.x),(22,GC.x)]) (.and T6 (.and Bs (.and gm (.and Bs (.and gR (.and UH .none))))))
theorem iG:M 6 PQ:=MB Tryz.func6 (l:=[(14,Sw.x),(15,TH.x),(16,BD.x),(17,TG.x),(20,TI.x),(19,AJ.x),(18,Tb.x)]) (.and gN (.and gk (.and Bs (.and gj (.and gl (.and AX (.and iF .none)))))))
theorem sG:M 11 Tc:=MB Tryz.func11 (l:=[]) .none
theorem iH:M 7 PR:=MB Tryz.func7 (l:=(21,Bu.x)::List.replicate 5 (22,GC.x)++[]) (.and C9 (.rep 5 UH .none))
theorem iI:M 23 PS:=MB Tryz.func23 (l:=[]) .none
theorem zK:M 12 fu:=MB Tryz.func12 (l:=[(23,PS.x)]) (.and iI .none)
theorem zL:M 13 fv:=MB Tryz.func13 (l:=[]) .none
theorem K4:M 4 C2:=MB Tryz.func4 (l:=[(5,PO.x),(6,PQ.x),(10,MT.x),(11,Tc.x),(7,PR.x),(12,fu.x),(11,Tc.x),(13,fv.x)]) (.and gM (.and iG (.and Ws (.and sG (.and iH (.and zK (.and sG (.and zL .none))))))))
end Go.Proofs.YthnbolemafdhfaaGreat.fnOffersFold
