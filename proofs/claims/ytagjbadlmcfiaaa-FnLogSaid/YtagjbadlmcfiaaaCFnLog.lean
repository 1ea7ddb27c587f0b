/-
  The law FnLog holds of the program, for all arguments.
-/
import Derived.Test.YtagjbadlmcfiaaaRows
import Derived.Test.YtagjbadlmcfiaaaKB
import Derived.Test.YtagjbadlmcfiaaaLvE
import Derived.Test.YtagjbadlmcfiaaaPL
import Derived.WalkKit
import Derived.OpenShut
import Derived.JoinedCond
namespace Go.Proofs.Ytagjbadlmcfiaaa.fnLog
open Go Lv Lv.P Go.ChangeShapes Go.WideShapes Go.ChangeAt Go.RowKit

theorem own : ownKnob Try.prog.godebug = none := by kernel_rfl
theorem laidOut : laidOutB Try.prog = true := by kernel_rfl
set_option maxRecDepth 100000
theorem mt_laws_big : Mt (fun _ _ _ => False) Try.prog 31 gf_laws_big.x := .by Try.func31 (by kernel_rfl) (l := []) (by kernel_rfl) .none
theorem mt_spec_l1New : Mt (fun _ _ _ => False) Try.prog 59 gf_spec_l1New.x := .by Try.func59 (by kernel_rfl) (l := []) (by kernel_rfl) .none
theorem mt_spec_l1Byte : Mt (fun _ _ _ => False) Try.prog 90 gf_spec_l1Byte.x := .by Try.func90 (by kernel_rfl) (l := []) (by kernel_rfl) .none
theorem mt_spec_l1Below : Mt (fun _ _ _ => False) Try.prog 64 gf_spec_l1Below.x := .by Try.func64 (by kernel_rfl) (l := [(90, gf_spec_l1Byte.x), (90, gf_spec_l1Byte.x), (90, gf_spec_l1Byte.x), (90, gf_spec_l1Byte.x), (90, gf_spec_l1Byte.x)]) (by kernel_rfl) (.and mt_spec_l1Byte (.and mt_spec_l1Byte (.and mt_spec_l1Byte (.and mt_spec_l1Byte (.and mt_spec_l1Byte .none)))))
theorem mt_spec_l5Right : Mt (fun _ _ _ => False) Try.prog 80 gf_spec_l5Right.x := .by Try.func80 (by kernel_rfl) (l := [(64, gf_spec_l1Below.x), (64, gf_spec_l1Below.x), (64, gf_spec_l1Below.x), (64, gf_spec_l1Below.x), (64, gf_spec_l1Below.x), (64, gf_spec_l1Below.x), (64, gf_spec_l1Below.x), (64, gf_spec_l1Below.x), (64, gf_spec_l1Below.x), (64, gf_spec_l1Below.x)]) (by kernel_rfl) (.and mt_spec_l1Below (.and mt_spec_l1Below (.and mt_spec_l1Below (.and mt_spec_l1Below (.and mt_spec_l1Below (.and mt_spec_l1Below (.and mt_spec_l1Below (.and mt_spec_l1Below (.and mt_spec_l1Below (.and mt_spec_l1Below .none))))))))))
theorem mt_spec_l1In : Mt (fun _ _ _ => False) Try.prog 62 gf_spec_l1In.x := .by Try.func62 (by kernel_rfl) (l := []) (by kernel_rfl) .none
theorem mt_spec_RulesOk : Mt (fun _ _ _ => False) Try.prog 97 gf_spec_RulesOk.x := .by Try.func97 (by kernel_rfl) (l := [(62, gf_spec_l1In.x), (62, gf_spec_l1In.x), (62, gf_spec_l1In.x), (62, gf_spec_l1In.x), (62, gf_spec_l1In.x), (62, gf_spec_l1In.x), (62, gf_spec_l1In.x), (62, gf_spec_l1In.x), (62, gf_spec_l1In.x), (62, gf_spec_l1In.x)]) (by kernel_rfl) (.and mt_spec_l1In (.and mt_spec_l1In (.and mt_spec_l1In (.and mt_spec_l1In (.and mt_spec_l1In (.and mt_spec_l1In (.and mt_spec_l1In (.and mt_spec_l1In (.and mt_spec_l1In (.and mt_spec_l1In .none))))))))))
theorem mt_spec_l5Copy : Mt (fun _ _ _ => False) Try.prog 98 gf_spec_l5Copy.x := .by Try.func98 (by kernel_rfl) (l := []) (by kernel_rfl) .none
theorem mt_spec_LedgerOk : Mt (fun _ _ _ => False) Try.prog 113 gf_spec_LedgerOk.x := .by Try.func113 (by kernel_rfl) (l := [(62, gf_spec_l1In.x), (62, gf_spec_l1In.x), (62, gf_spec_l1In.x), (62, gf_spec_l1In.x), (62, gf_spec_l1In.x)]) (by kernel_rfl) (.and mt_spec_l1In (.and mt_spec_l1In (.and mt_spec_l1In (.and mt_spec_l1In (.and mt_spec_l1In .none)))))
theorem mt_spec_LedgerNew : Mt (fun _ _ _ => False) Try.prog 107 gf_spec_LedgerNew.x := .by Try.func107 (by kernel_rfl) (l := [(113, gf_spec_LedgerOk.x)]) (by kernel_rfl) (.and mt_spec_LedgerOk .none)
theorem mt_spec_WheelNew : Mt (fun _ _ _ => False) Try.prog 102 gf_spec_WheelNew.x := .by Try.func102 (by kernel_rfl) (l := []) (by kernel_rfl) .none
theorem mt_spec_CabinNew : Mt (fun _ _ _ => False) Try.prog 99 gf_spec_CabinNew.x := .by Try.func99 (by kernel_rfl) (l := [(107, gf_spec_LedgerNew.x), (102, gf_spec_WheelNew.x)]) (by kernel_rfl) (.and mt_spec_LedgerNew (.and mt_spec_WheelNew .none))
theorem mt_spec_HouseNew : Mt (fun _ _ _ => False) Try.prog 81 gf_spec_HouseNew.x := .by Try.func81 (by kernel_rfl) (l := [(97, gf_spec_RulesOk.x), (98, gf_spec_l5Copy.x), (99, gf_spec_CabinNew.x)]) (by kernel_rfl) (.and mt_spec_RulesOk (.and mt_spec_l5Copy (.and mt_spec_CabinNew .none)))
theorem mt_spec_l1Once : Mt (fun _ _ _ => False) Try.prog 66 gf_spec_l1Once.x := .by Try.func66 (by kernel_rfl) (l := [(64, gf_spec_l1Below.x)]) (by kernel_rfl) (.and mt_spec_l1Below .none)
theorem mt_spec_l6Right : Mt (fun _ _ _ => False) Try.prog 82 gf_spec_l6Right.x := .by Try.func82 (by kernel_rfl) (l := [(64, gf_spec_l1Below.x), (64, gf_spec_l1Below.x), (64, gf_spec_l1Below.x), (64, gf_spec_l1Below.x), (64, gf_spec_l1Below.x), (64, gf_spec_l1Below.x), (64, gf_spec_l1Below.x), (64, gf_spec_l1Below.x), (64, gf_spec_l1Below.x), (64, gf_spec_l1Below.x), (64, gf_spec_l1Below.x), (64, gf_spec_l1Below.x), (64, gf_spec_l1Below.x), (64, gf_spec_l1Below.x), (64, gf_spec_l1Below.x), (64, gf_spec_l1Below.x), (64, gf_spec_l1Below.x), (64, gf_spec_l1Below.x), (64, gf_spec_l1Below.x), (64, gf_spec_l1Below.x), (64, gf_spec_l1Below.x), (64, gf_spec_l1Below.x), (64, gf_spec_l1Below.x), (64, gf_spec_l1Below.x), (64, gf_spec_l1Below.x), (64, gf_spec_l1Below.x), (64, gf_spec_l1Below.x), (62, gf_spec_l1In.x), (64, gf_spec_l1Below.x), (66, gf_spec_l1Once.x), (64, gf_spec_l1Below.x), (66, gf_spec_l1Once.x), (64, gf_spec_l1Below.x), (66, gf_spec_l1Once.x), (64, gf_spec_l1Below.x)]) (by kernel_rfl) (.and mt_spec_l1Below (.and mt_spec_l1Below (.and mt_spec_l1Below (.and mt_spec_l1Below (.and mt_spec_l1Below (.and mt_spec_l1Below (.and mt_spec_l1Below (.and mt_spec_l1Below (.and mt_spec_l1Below (.and mt_spec_l1Below (.and mt_spec_l1Below (.and mt_spec_l1Below (.and mt_spec_l1Below (.and mt_spec_l1Below (.and mt_spec_l1Below (.and mt_spec_l1Below (.and mt_spec_l1Below (.and mt_spec_l1Below (.and mt_spec_l1Below (.and mt_spec_l1Below (.and mt_spec_l1Below (.and mt_spec_l1Below (.and mt_spec_l1Below (.and mt_spec_l1Below (.and mt_spec_l1Below (.and mt_spec_l1Below (.and mt_spec_l1Below (.and mt_spec_l1In (.and mt_spec_l1Below (.and mt_spec_l1Once (.and mt_spec_l1Below (.and mt_spec_l1Once (.and mt_spec_l1Below (.and mt_spec_l1Once (.and mt_spec_l1Below .none)))))))))))))))))))))))))))))))))))
theorem mt_spec_l1Min : Mt (fun _ _ _ => False) Try.prog 83 gf_spec_l1Min.x := .by Try.func83 (by kernel_rfl) (l := []) (by kernel_rfl) .none
theorem mt_spec_l11At : Mt (fun _ _ _ => False) Try.prog 84 gf_spec_l11At.x := .by Try.func84 (by kernel_rfl) (l := []) (by kernel_rfl) .none
theorem mt_spec_CountIn : Mt (fun _ _ _ => False) Try.prog 85 gf_spec_CountIn.x := .by Try.func85 (by kernel_rfl) (l := []) (by kernel_rfl) .none
theorem mt_spec_HeldIn : Mt (fun _ _ _ => False) Try.prog 100 gf_spec_HeldIn.x := .by Try.func100 (by kernel_rfl) (l := [(62, gf_spec_l1In.x)]) (by kernel_rfl) (.and mt_spec_l1In .none)
theorem mt_spec_TiedIn : Mt (fun _ _ _ => False) Try.prog 101 gf_spec_TiedIn.x := .by Try.func101 (by kernel_rfl) (l := [(62, gf_spec_l1In.x)]) (by kernel_rfl) (.and mt_spec_l1In .none)
theorem mt_spec_l11Room : Mt (fun _ _ _ => False) Try.prog 86 gf_spec_l11Room.x := .by Try.func86 (by kernel_rfl) (l := [(100, gf_spec_HeldIn.x), (101, gf_spec_TiedIn.x)]) (by kernel_rfl) (.and mt_spec_HeldIn (.and mt_spec_TiedIn .none))
theorem mt_spec_PartyPut : Mt (fun _ _ _ => False) Try.prog 87 gf_spec_PartyPut.x := .by Try.func87 (by kernel_rfl) (l := [(84, gf_spec_l11At.x)]) (by kernel_rfl) (.and mt_spec_l11At .none)
theorem mt_spec_l9Less : Mt (fun _ _ _ => False) Try.prog 114 gf_spec_l9Less.x := .by Try.func114 (by kernel_rfl) (l := []) (by kernel_rfl) .none
theorem mt_spec_l9Put : Mt (fun _ _ _ => False) Try.prog 108 gf_spec_l9Put.x := .by Try.func108 (by kernel_rfl) (l := [(114, gf_spec_l9Less.x)]) (by kernel_rfl) (.and mt_spec_l9Less .none)
theorem mt_spec_PinsIn : Mt (fun _ _ _ => False) Try.prog 103 gf_spec_PinsIn.x := .by Try.func103 (by kernel_rfl) (l := [(108, gf_spec_l9Put.x)]) (by kernel_rfl) (.and mt_spec_l9Put .none)
theorem mt_spec_l9Copy : Mt (fun _ _ _ => False) Try.prog 109 gf_spec_l9Copy.x := .by Try.func109 (by kernel_rfl) (l := []) (by kernel_rfl) .none
theorem mt_spec_l9All : Mt (fun _ _ _ => False) Try.prog 115 gf_spec_l9All.x := .by Try.func115 (by kernel_rfl) (l := []) (by kernel_rfl) .none
theorem mt_spec_WheelOk : Mt (fun _ _ _ => False) Try.prog 110 gf_spec_WheelOk.x := .by Try.func110 (by kernel_rfl) (l := [(115, gf_spec_l9All.x), (62, gf_spec_l1In.x), (62, gf_spec_l1In.x), (114, gf_spec_l9Less.x)]) (by kernel_rfl) (.and mt_spec_l9All (.and mt_spec_l1In (.and mt_spec_l1In (.and mt_spec_l9Less .none))))
theorem mt_spec_WheelPut : Mt (fun _ _ _ => False) Try.prog 104 gf_spec_WheelPut.x := .by Try.func104 (by kernel_rfl) (l := [(109, gf_spec_l9Copy.x), (110, gf_spec_WheelOk.x), (108, gf_spec_l9Put.x), (110, gf_spec_WheelOk.x), (109, gf_spec_l9Copy.x)]) (by kernel_rfl) (.and mt_spec_l9Copy (.and mt_spec_WheelOk (.and mt_spec_l9Put (.and mt_spec_WheelOk (.and mt_spec_l9Copy .none)))))
theorem mt_spec_l1Max : Mt (fun _ _ _ => False) Try.prog 91 gf_spec_l1Max.x := .by Try.func91 (by kernel_rfl) (l := []) (by kernel_rfl) .none
theorem mt_spec_PartyOk : Mt (fun _ _ _ => False) Try.prog 119 gf_spec_PartyOk.x := .by Try.func119 (by kernel_rfl) (l := [(97, gf_spec_RulesOk.x), (62, gf_spec_l1In.x), (62, gf_spec_l1In.x), (62, gf_spec_l1In.x), (62, gf_spec_l1In.x), (62, gf_spec_l1In.x), (62, gf_spec_l1In.x), (62, gf_spec_l1In.x), (62, gf_spec_l1In.x), (62, gf_spec_l1In.x), (62, gf_spec_l1In.x), (62, gf_spec_l1In.x)]) (by kernel_rfl) (.and mt_spec_RulesOk (.and mt_spec_l1In (.and mt_spec_l1In (.and mt_spec_l1In (.and mt_spec_l1In (.and mt_spec_l1In (.and mt_spec_l1In (.and mt_spec_l1In (.and mt_spec_l1In (.and mt_spec_l1In (.and mt_spec_l1In (.and mt_spec_l1In .none))))))))))))
theorem mt_spec_l5Level : Mt (fun _ _ _ => False) Try.prog 120 gf_spec_l5Level.x := .by Try.func120 (by kernel_rfl) (l := [(91, gf_spec_l1Max.x)]) (by kernel_rfl) (.and mt_spec_l1Max .none)
theorem mt_spec_LevelOf : Mt (fun _ _ _ => False) Try.prog 116 gf_spec_LevelOf.x := .by Try.func116 (by kernel_rfl) (l := [(119, gf_spec_PartyOk.x), (120, gf_spec_l5Level.x)]) (by kernel_rfl) (.and mt_spec_PartyOk (.and mt_spec_l5Level .none))
theorem mt_spec_EntryOf : Mt (fun _ _ _ => False) Try.prog 111 gf_spec_EntryOf.x := .by Try.func111 (by kernel_rfl) (l := [(116, gf_spec_LevelOf.x)]) (by kernel_rfl) (.and mt_spec_LevelOf .none)
theorem mt_spec_EntryLess : Mt (fun _ _ _ => False) Try.prog 117 gf_spec_EntryLess.x := .by Try.func117 (by kernel_rfl) (l := []) (by kernel_rfl) .none
theorem mt_spec_l7Copy : Mt (fun _ _ _ => False) Try.prog 118 gf_spec_l7Copy.x := .by Try.func118 (by kernel_rfl) (l := []) (by kernel_rfl) .none
theorem mt_spec_l7Put : Mt (fun _ _ _ => False) Try.prog 112 gf_spec_l7Put.x := .by Try.func112 (by kernel_rfl) (l := [(117, gf_spec_EntryLess.x), (118, gf_spec_l7Copy.x), (118, gf_spec_l7Copy.x)]) (by kernel_rfl) (.and mt_spec_EntryLess (.and mt_spec_l7Copy (.and mt_spec_l7Copy .none)))
theorem mt_spec_QueueOf : Mt (fun _ _ _ => False) Try.prog 105 gf_spec_QueueOf.x := .by Try.func105 (by kernel_rfl) (l := [(111, gf_spec_EntryOf.x), (111, gf_spec_EntryOf.x), (112, gf_spec_l7Put.x)]) (by kernel_rfl) (.and mt_spec_EntryOf (.and mt_spec_EntryOf (.and mt_spec_l7Put .none)))
theorem mt_spec_l10Made : Mt (fun _ _ _ => False) Try.prog 88 gf_spec_l10Made.x := .by Try.func88 (by kernel_rfl) (l := [(102, gf_spec_WheelNew.x), (103, gf_spec_PinsIn.x), (104, gf_spec_WheelPut.x), (100, gf_spec_HeldIn.x), (101, gf_spec_TiedIn.x), (91, gf_spec_l1Max.x), (105, gf_spec_QueueOf.x)]) (by kernel_rfl) (.and mt_spec_WheelNew (.and mt_spec_PinsIn (.and mt_spec_WheelPut (.and mt_spec_HeldIn (.and mt_spec_TiedIn (.and mt_spec_l1Max (.and mt_spec_QueueOf .none)))))))
theorem mt_spec_l1Has : Mt (fun _ _ _ => False) Try.prog 106 gf_spec_l1Has.x := .by Try.func106 (by kernel_rfl) (l := []) (by kernel_rfl) .none
theorem mt_spec_TodoPut : Mt (fun _ _ _ => False) Try.prog 89 gf_spec_TodoPut.x := .by Try.func89 (by kernel_rfl) (l := [(106, gf_spec_l1Has.x)]) (by kernel_rfl) (.and mt_spec_l1Has .none)
theorem mt_spec_l11Right : Mt (fun _ _ _ => False) Try.prog 63 gf_spec_l11Right.x := .by Try.func63 (by kernel_rfl) (l := [(80, gf_spec_l5Right.x), (81, gf_spec_HouseNew.x), (64, gf_spec_l1Below.x), (64, gf_spec_l1Below.x), (82, gf_spec_l6Right.x), (64, gf_spec_l1Below.x), (64, gf_spec_l1Below.x), (64, gf_spec_l1Below.x), (83, gf_spec_l1Min.x), (84, gf_spec_l11At.x), (85, gf_spec_CountIn.x), (86, gf_spec_l11Room.x), (87, gf_spec_PartyPut.x), (64, gf_spec_l1Below.x), (88, gf_spec_l10Made.x), (66, gf_spec_l1Once.x), (89, gf_spec_TodoPut.x), (66, gf_spec_l1Once.x), (64, gf_spec_l1Below.x)]) (by kernel_rfl) (.and mt_spec_l5Right (.and mt_spec_HouseNew (.and mt_spec_l1Below (.and mt_spec_l1Below (.and mt_spec_l6Right (.and mt_spec_l1Below (.and mt_spec_l1Below (.and mt_spec_l1Below (.and mt_spec_l1Min (.and mt_spec_l11At (.and mt_spec_CountIn (.and mt_spec_l11Room (.and mt_spec_PartyPut (.and mt_spec_l1Below (.and mt_spec_l10Made (.and mt_spec_l1Once (.and mt_spec_TodoPut (.and mt_spec_l1Once (.and mt_spec_l1Below .none)))))))))))))))))))
theorem mt_spec_l12Right : Mt (fun _ _ _ => False) Try.prog 65 gf_spec_l12Right.x := .by Try.func65 (by kernel_rfl) (l := [(64, gf_spec_l1Below.x), (66, gf_spec_l1Once.x), (64, gf_spec_l1Below.x), (91, gf_spec_l1Max.x), (64, gf_spec_l1Below.x), (64, gf_spec_l1Below.x), (64, gf_spec_l1Below.x), (91, gf_spec_l1Max.x), (64, gf_spec_l1Below.x), (91, gf_spec_l1Max.x), (64, gf_spec_l1Below.x), (64, gf_spec_l1Below.x), (91, gf_spec_l1Max.x), (64, gf_spec_l1Below.x), (64, gf_spec_l1Below.x), (91, gf_spec_l1Max.x), (64, gf_spec_l1Below.x), (91, gf_spec_l1Max.x), (64, gf_spec_l1Below.x), (91, gf_spec_l1Max.x), (64, gf_spec_l1Below.x), (64, gf_spec_l1Below.x), (91, gf_spec_l1Max.x), (64, gf_spec_l1Below.x), (91, gf_spec_l1Max.x), (64, gf_spec_l1Below.x), (64, gf_spec_l1Below.x), (64, gf_spec_l1Below.x), (91, gf_spec_l1Max.x), (64, gf_spec_l1Below.x), (91, gf_spec_l1Max.x), (64, gf_spec_l1Below.x), (66, gf_spec_l1Once.x), (64, gf_spec_l1Below.x), (64, gf_spec_l1Below.x), (64, gf_spec_l1Below.x), (91, gf_spec_l1Max.x), (64, gf_spec_l1Below.x)]) (by kernel_rfl) (.and mt_spec_l1Below (.and mt_spec_l1Once (.and mt_spec_l1Below (.and mt_spec_l1Max (.and mt_spec_l1Below (.and mt_spec_l1Below (.and mt_spec_l1Below (.and mt_spec_l1Max (.and mt_spec_l1Below (.and mt_spec_l1Max (.and mt_spec_l1Below (.and mt_spec_l1Below (.and mt_spec_l1Max (.and mt_spec_l1Below (.and mt_spec_l1Below (.and mt_spec_l1Max (.and mt_spec_l1Below (.and mt_spec_l1Max (.and mt_spec_l1Below (.and mt_spec_l1Max (.and mt_spec_l1Below (.and mt_spec_l1Below (.and mt_spec_l1Max (.and mt_spec_l1Below (.and mt_spec_l1Max (.and mt_spec_l1Below (.and mt_spec_l1Below (.and mt_spec_l1Below (.and mt_spec_l1Max (.and mt_spec_l1Below (.and mt_spec_l1Max (.and mt_spec_l1Below (.and mt_spec_l1Once (.and mt_spec_l1Below (.and mt_spec_l1Below (.and mt_spec_l1Below (.and mt_spec_l1Max (.and mt_spec_l1Below .none))))))))))))))))))))))))))))))))))))))
theorem mt_spec_l1PickInt : Mt (fun _ _ _ => False) Try.prog 68 gf_spec_l1PickInt.x := .by Try.func68 (by kernel_rfl) (l := [(64, gf_spec_l1Below.x)]) (by kernel_rfl) (.and mt_spec_l1Below .none)
theorem mt_spec_l12Bent : Mt (fun _ _ _ => False) Try.prog 67 gf_spec_l12Bent.x := .by Try.func67 (by kernel_rfl) (l := [(65, gf_spec_l12Right.x), (68, gf_spec_l1PickInt.x), (64, gf_spec_l1Below.x)]) (by kernel_rfl) (.and mt_spec_l12Right (.and mt_spec_l1PickInt (.and mt_spec_l1Below .none)))
theorem mt_spec_DrawLogOf : Mt (fun _ _ _ => False) Try.prog 36 gf_spec_DrawLogOf.x := .by Try.func36 (by kernel_rfl) (l := [(59, gf_spec_l1New.x), (63, gf_spec_l11Right.x), (64, gf_spec_l1Below.x), (65, gf_spec_l12Right.x), (66, gf_spec_l1Once.x), (67, gf_spec_l12Bent.x), (68, gf_spec_l1PickInt.x)]) (by kernel_rfl) (.and mt_spec_l1New (.and mt_spec_l11Right (.and mt_spec_l1Below (.and mt_spec_l12Right (.and mt_spec_l1Once (.and mt_spec_l12Bent (.and mt_spec_l1PickInt .none)))))))
theorem mt_impl_within : Mt (fun _ _ _ => False) Try.prog 70 gf_impl_within.x := .by Try.func70 (by kernel_rfl) (l := []) (by kernel_rfl) .none
theorem mt_impl_ReqOk_1 : Mt (fun _ _ _ => False) Try.prog 75 gf_impl_ReqOk_1.x := .by Try.func75 (by kernel_rfl) (l := [(70, gf_impl_within.x)]) (by kernel_rfl) (.and mt_impl_within .none)
theorem mt_impl_ReqOk : Mt (fun _ _ _ => False) Try.prog 43 gf_impl_ReqOk.x := .by Try.func43 (by kernel_rfl) (l := [(75, gf_impl_ReqOk_1.x), (70, gf_impl_within.x)]) (by kernel_rfl) (.and mt_impl_ReqOk_1 (.and mt_impl_within .none))
theorem mt_impl_PutNum : Mt (fun _ _ _ => False) Try.prog 71 gf_impl_PutNum.x := .by Try.func71 (by kernel_rfl) (l := [(70, gf_impl_within.x)]) (by kernel_rfl) (.and mt_impl_within .none)
theorem mt_impl_putNums : Mt (fun _ _ _ => False) Try.prog 60 gf_impl_putNums.x := .by Try.func60 (by kernel_rfl) (l := [(71, gf_impl_PutNum.x)]) (by kernel_rfl) (.and mt_impl_PutNum .none)
theorem mt_impl_ReqBytes : Mt (fun _ _ _ => False) Try.prog 33 gf_impl_ReqBytes.x := .by Try.func33 (by kernel_rfl) (l := [(43, gf_impl_ReqOk.x), (60, gf_impl_putNums.x)]) (by kernel_rfl) (.and mt_impl_ReqOk (.and mt_impl_putNums .none))
theorem mt_impl_Crc : Mt (fun _ _ _ => False) Try.prog 72 gf_impl_Crc.x := .by Try.func72 (by kernel_rfl) (l := []) (by kernel_rfl) .none
theorem mt_impl_FrameOf : Mt (fun _ _ _ => False) Try.prog 38 gf_impl_FrameOf.x := .by Try.func38 (by kernel_rfl) (l := [(70, gf_impl_within.x), (70, gf_impl_within.x), (71, gf_impl_PutNum.x), (72, gf_impl_Crc.x), (71, gf_impl_PutNum.x)]) (by kernel_rfl) (.and mt_impl_within (.and mt_impl_within (.and mt_impl_PutNum (.and mt_impl_Crc (.and mt_impl_PutNum .none)))))
theorem mt_impl_NoteOf : Mt (fun _ _ _ => False) Try.prog 53 gf_impl_NoteOf.x := .by Try.func53 (by kernel_rfl) (l := [(33, gf_impl_ReqBytes.x), (38, gf_impl_FrameOf.x)]) (by kernel_rfl) (.and mt_impl_ReqBytes (.and mt_impl_FrameOf .none))
theorem mt_impl_LogOf : Mt (fun _ _ _ => False) Try.prog 21 gf_impl_LogOf.x := .by Try.func21 (by kernel_rfl) (l := [(53, gf_impl_NoteOf.x)]) (by kernel_rfl) (.and mt_impl_NoteOf .none)
theorem mt_spec_l12Field : Mt (fun _ _ _ => False) Try.prog 61 gf_spec_l12Field.x := .by Try.func61 (by kernel_rfl) (l := [(62, gf_spec_l1In.x)]) (by kernel_rfl) (.and mt_spec_l1In .none)
theorem mt_spec_ReqOk : Mt (fun _ _ _ => False) Try.prog 34 gf_spec_ReqOk.x := .by Try.func34 (by kernel_rfl) (l := [(61, gf_spec_l12Field.x), (61, gf_spec_l12Field.x), (62, gf_spec_l1In.x), (61, gf_spec_l12Field.x), (61, gf_spec_l12Field.x), (61, gf_spec_l12Field.x), (61, gf_spec_l12Field.x), (61, gf_spec_l12Field.x)]) (by kernel_rfl) (.and mt_spec_l12Field (.and mt_spec_l12Field (.and mt_spec_l1In (.and mt_spec_l12Field (.and mt_spec_l12Field (.and mt_spec_l12Field (.and mt_spec_l12Field (.and mt_spec_l12Field .none))))))))
theorem mt_spec_PutNum : Mt (fun _ _ _ => False) Try.prog 92 gf_spec_PutNum.x := .by Try.func92 (by kernel_rfl) (l := [(62, gf_spec_l1In.x)]) (by kernel_rfl) (.and mt_spec_l1In .none)
theorem mt_spec_l18Nums : Mt (fun _ _ _ => False) Try.prog 69 gf_spec_l18Nums.x := .by Try.func69 (by kernel_rfl) (l := [(92, gf_spec_PutNum.x)]) (by kernel_rfl) (.and mt_spec_PutNum .none)
theorem mt_spec_ReqBytes : Mt (fun _ _ _ => False) Try.prog 37 gf_spec_ReqBytes.x := .by Try.func37 (by kernel_rfl) (l := [(34, gf_spec_ReqOk.x), (69, gf_spec_l18Nums.x), (69, gf_spec_l18Nums.x), (69, gf_spec_l18Nums.x), (69, gf_spec_l18Nums.x)]) (by kernel_rfl) (.and mt_spec_ReqOk (.and mt_spec_l18Nums (.and mt_spec_l18Nums (.and mt_spec_l18Nums (.and mt_spec_l18Nums .none)))))
theorem mt_spec_Crc : Mt (fun _ _ _ => False) Try.prog 96 gf_spec_Crc.x := .by Try.func96 (by kernel_rfl) (l := []) (by kernel_rfl) .none
theorem mt_spec_l2Four : Mt (fun _ _ _ => False) Try.prog 95 gf_spec_l2Four.x := .by Try.func95 (by kernel_rfl) (l := []) (by kernel_rfl) .none
theorem mt_spec_FrameOf : Mt (fun _ _ _ => False) Try.prog 79 gf_spec_FrameOf.x := .by Try.func79 (by kernel_rfl) (l := [(62, gf_spec_l1In.x), (62, gf_spec_l1In.x), (92, gf_spec_PutNum.x), (96, gf_spec_Crc.x), (95, gf_spec_l2Four.x), (92, gf_spec_PutNum.x)]) (by kernel_rfl) (.and mt_spec_l1In (.and mt_spec_l1In (.and mt_spec_PutNum (.and mt_spec_Crc (.and mt_spec_l2Four (.and mt_spec_PutNum .none))))))
theorem mt_spec_NoteOf : Mt (fun _ _ _ => False) Try.prog 51 gf_spec_NoteOf.x := .by Try.func51 (by kernel_rfl) (l := [(37, gf_spec_ReqBytes.x), (79, gf_spec_FrameOf.x)]) (by kernel_rfl) (.and mt_spec_ReqBytes (.and mt_spec_FrameOf .none))
theorem mt_spec_LogOf : Mt (fun _ _ _ => False) Try.prog 19 gf_spec_LogOf.x := .by Try.func19 (by kernel_rfl) (l := [(51, gf_spec_NoteOf.x)]) (by kernel_rfl) (.and mt_spec_NoteOf .none)
theorem mt_impl_isIndex : Mt (fun _ _ _ => False) Try.prog 93 gf_impl_isIndex.x := .by Try.func93 (by kernel_rfl) (l := [(70, gf_impl_within.x)]) (by kernel_rfl) (.and mt_impl_within .none)
theorem mt_impl_GetNum : Mt (fun _ _ _ => False) Try.prog 77 gf_impl_GetNum.x := .by Try.func77 (by kernel_rfl) (l := [(70, gf_impl_within.x), (71, gf_impl_PutNum.x)]) (by kernel_rfl) (.and mt_impl_within (.and mt_impl_PutNum .none))
theorem mt_impl_FrameAt : Mt (fun _ _ _ => False) Try.prog 73 gf_impl_FrameAt.x := .by Try.func73 (by kernel_rfl) (l := [(93, gf_impl_isIndex.x), (77, gf_impl_GetNum.x), (77, gf_impl_GetNum.x), (38, gf_impl_FrameOf.x)]) (by kernel_rfl) (.and mt_impl_isIndex (.and mt_impl_GetNum (.and mt_impl_GetNum (.and mt_impl_FrameOf .none))))
theorem mt_impl_Frames : Mt (fun _ _ _ => False) Try.prog 39 gf_impl_Frames.x := .by Try.func39 (by kernel_rfl) (l := [(73, gf_impl_FrameAt.x)]) (by kernel_rfl) (.and mt_impl_FrameAt .none)
theorem mt_impl_getNums : Mt (fun _ _ _ => False) Try.prog 47 gf_impl_getNums.x := .by Try.func47 (by kernel_rfl) (l := [(77, gf_impl_GetNum.x)]) (by kernel_rfl) (.and mt_impl_GetNum .none)
theorem mt_impl_ReqRead : Mt (fun _ _ _ => False) Try.prog 12 gf_impl_ReqRead.x := .by Try.func12 (by kernel_rfl) (l := [(47, gf_impl_getNums.x), (33, gf_impl_ReqBytes.x)]) (by kernel_rfl) (.and mt_impl_getNums (.and mt_impl_ReqBytes .none))
theorem mt_impl_NotesIn : Mt (fun _ _ _ => False) Try.prog 26 gf_impl_NotesIn.x := .by Try.func26 (by kernel_rfl) (l := [(12, gf_impl_ReqRead.x)]) (by kernel_rfl) (.and mt_impl_ReqRead .none)
theorem mt_laws_at0 : Mt (fun _ _ _ => False) Try.prog 35 gf_laws_at0.x := .by Try.func35 (by kernel_rfl) (l := []) (by kernel_rfl) .none
theorem mt_impl_After : Mt (fun _ _ _ => False) Try.prog 44 gf_impl_After.x := .by Try.func44 (by kernel_rfl) (l := []) (by kernel_rfl) .none
theorem mt_laws_sameReqs : Mt (fun _ _ _ => False) Try.prog 45 gf_laws_sameReqs.x := .by Try.func45 (by kernel_rfl) (l := []) (by kernel_rfl) .none
theorem mt_laws_FnLog : Mt (fun _ _ _ => False) Try.prog 10 gf_laws_FnLog.x := .by Try.func10 (by kernel_rfl) (l := [(31, gf_laws_big.x), (36, gf_spec_DrawLogOf.x), (21, gf_impl_LogOf.x), (19, gf_spec_LogOf.x), (39, gf_impl_Frames.x), (26, gf_impl_NotesIn.x), (35, gf_laws_at0.x), (39, gf_impl_Frames.x), (44, gf_impl_After.x), (26, gf_impl_NotesIn.x), (45, gf_laws_sameReqs.x), (45, gf_laws_sameReqs.x)]) (by kernel_rfl) (.and mt_laws_big (.and mt_spec_DrawLogOf (.and mt_impl_LogOf (.and mt_spec_LogOf (.and mt_impl_Frames (.and mt_impl_NotesIn (.and mt_laws_at0 (.and mt_impl_Frames (.and mt_impl_After (.and mt_impl_NotesIn (.and mt_laws_sameReqs (.and mt_laws_sameReqs .none))))))))))))
theorem runs_law {x0 : List UInt8} (h : d_laws_FnLog x0 = some true) : Runs gf_laws_FnLog.x [.v .one [T.sl 1 (x0.map eBr)]] .one [.bool true] [] := gf_laws_FnLog.ok (x0, ()) true h
section
variable {H : Type} {enc : TypeId × Value → H} {w : World} {base : Nat} {spare : Nat → Bool} {held : Bool}
theorem reads_t5 : Reads enc Try.prog w base spare held 5 eBr okT 1 := .u8 Try.underlying5 (by kernel_rfl)
theorem reads_t55 : Reads enc Try.prog w base spare held 55 (fun l : List UInt8 => [T.sl 1 (l.map eBr)]) (okL okT) 1 := .slice Try.underlying55 (by kernel_rfl) (by decide) reads_t5
end

theorem contract (H : Type) (enc : TypeId × Value → H) (W : World) (base : Nat) (args : Array Value) (ds gs : List (DataW H)) (before : List MemPlace)
    (hval : ∀ (j : Nat) t v, Try.f10.params[j]? = some t → args[j]? = some v → Value.okWide Try.prog W .any base t v)
    (hW : DataW.Whole enc Try.prog Try.f10.params.toList Rows.fnLogSpec.vars false W args.toList ds gs before) :
    Calls Try.prog 10 args W fun e W' => ∃ v, e = .returned v ∧ Rows.fnLogSpec.post enc Try.prog Try.f10 false true false false W args v W' := by
  have hW' := hW
  obtain ⟨p, q, hA0, hV, rfl, hfz, hnd⟩ := hW
  have hA : DataW.TrodAll enc Try.prog W 0 (fun _ => true) true Try.f10.params.toList args.toList ds p := hA0
  obtain ⟨rfl, rfl⟩ := trodVars_none hV
  clear hA0
  simp only [List.append_nil] at hW'
  have hA1 := hA
  rw [Try.params10] at hA1 hval
  obtain ⟨v0, vs0, d0, ds0, p0, q0, hargs, rfl, rfl, h0, hA1⟩ := trodAll_cons hA1
  obtain ⟨rfl, rfl, rfl⟩ := trodAll_nil hA1
  obtain rfl : args = #[v0] := by cases args; simp_all
  obtain ⟨a0, len0, cap0, rfl⟩ := okWide_slice Try.underlying55 (hval 0 55 v0 rfl rfl)
  obtain ⟨x0, k0, e0⟩ := reads_t55.one h0 rfl
  refine law_post (A := (fun _ _ _ => False)) prims_none laidOut (tb := 4) Try.underlying4 rfl (runs_law (Law_FnLog k0)) mt_laws_FnLog (gf_laws_FnLog.ms.trans rfl) rfl ?_ hW' hA rfl (by rw [Try.params10]; exact of_decide_eq_true (by kernel_rfl)) rfl rfl rfl
  intro i V u hV hu
  match i, hV, hu with
  | 0, hV, hu => cases hV; cases hu; exact e0

set_option maxRecDepth 100000 in
theorem lifted (os : Os) (started : os.Started) (H : Type) (enc : TypeId × Value → H) :
    ReturnsInHanded {} Try.checked os 10 .any (Rows.fnLogSpec.pre6 enc Try.prog Try.f10 Rows.fnLogRow.domain false) (Rows.fnLogSpec.post enc Try.prog Try.f10 false true false false) := by
  refine returnsInHanded_of_change (C := Try.checked) own started (by kernel_rfl) Try.func10
    (ChangeSpec.witness6 (enc := enc) (C := Try.checked) false ⟨#[], #[.slice none 0 0], []⟩ 8 (by kernel_rfl) (by kernel_rfl) (by kernel_rfl) (by kernel_rfl)) ?_
  intro W base args ds gs before hval hW _ _
  exact contract H enc W base args ds gs before hval hW

theorem holds : Rows.FnLogSaid :=
  OpenClaim.holds_of_wide 10 Try.f10 rfl rfl rfl rfl rfl rfl rfl ⟨rfl, rfl, rfl, rfl, rfl⟩ rfl rfl rfl rfl rfl (by kernel_rfl) Try.func10 (by kernel_rfl)
    (of_decide_eq_true (by kernel_rfl)) (by unfold Func.isWrapper; first | (rw [if_pos (by decide +kernel)]; kernel_rfl) | (rw [if_neg (by decide +kernel)]; exact ⟨rfl, rfl⟩))
    (fun os started H enc _ => lifted os started H enc)
#print axioms holds
end Go.Proofs.Ytagjbadlmcfiaaa.fnLog
