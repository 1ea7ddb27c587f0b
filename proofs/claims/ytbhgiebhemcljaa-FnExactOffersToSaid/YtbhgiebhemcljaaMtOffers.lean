/-
  The functions of the law OffersTo in this program are the texts of the light evaluator.
-/
import Derived.Test.YtbhgiebhemcljaaRows
import Derived.Test.YtbhgiebhemcljaaLvE
import Derived.Test.YtbhgiebhemcljaaT1a
set_option linter.unusedVariables false
set_option linter.unusedSimpArgs false
namespace Go.Proofs.Ytbhgiebhemcljaa
open Go Lv
set_option maxRecDepth 100000
theorem mt_laws_szIntS : Mt (fun _ _ _ => False) Try.prog 42 x_laws_szIntS := .by Try.func42 (by kernel_rfl) (l := []) (by kernel_rfl) .none
theorem mt_laws_szReply : Mt (fun _ _ _ => False) Try.prog 28 x_laws_szReply := .by Try.func28 (by kernel_rfl) (l := [(42, x_laws_szIntS)]) (by kernel_rfl) (.and mt_laws_szIntS .none)
theorem mt_laws_szReplyS : Mt (fun _ _ _ => False) Try.prog 9 x_laws_szReplyS := .by Try.func9 (by kernel_rfl) (l := [(28, x_laws_szReply)]) (by kernel_rfl) (.and mt_laws_szReply .none)
theorem mt_spec_OffersTo : Mt (fun _ _ _ => False) Try.prog 10 x_spec_OffersTo := .by Try.func10 (by kernel_rfl) (l := []) (by kernel_rfl) .none
theorem mt_laws_toIntS : Mt (fun _ _ _ => False) Try.prog 43 x_laws_toIntS := .by Try.func43 (by kernel_rfl) (l := []) (by kernel_rfl) .none
theorem mt_laws_toReply : Mt (fun _ _ _ => False) Try.prog 29 x_laws_toReply := .by Try.func29 (by kernel_rfl) (l := [(43, x_laws_toIntS)]) (by kernel_rfl) (.and mt_laws_toIntS .none)
theorem mt_laws_toReplyS : Mt (fun _ _ _ => False) Try.prog 11 x_laws_toReplyS := .by Try.func11 (by kernel_rfl) (l := [(29, x_laws_toReply)]) (by kernel_rfl) (.and mt_laws_toReply .none)
theorem mt_impl_OffersTo : Mt (fun _ _ _ => False) Try.prog 12 x_impl_OffersTo := .by Try.func12 (by kernel_rfl) (l := []) (by kernel_rfl) .none
theorem mt_laws_eqIntS : Mt (fun _ _ _ => False) Try.prog 44 x_laws_eqIntS := .by Try.func44 (by kernel_rfl) (l := []) (by kernel_rfl) .none
theorem mt_laws_eqReply : Mt (fun _ _ _ => False) Try.prog 30 x_laws_eqReply := .by Try.func30 (by kernel_rfl) (l := [(44, x_laws_eqIntS)]) (by kernel_rfl) (.and mt_laws_eqIntS .none)
theorem mt_laws_eqReplyS : Mt (fun _ _ _ => False) Try.prog 13 x_laws_eqReplyS := .by Try.func13 (by kernel_rfl) (l := [(30, x_laws_eqReply)]) (by kernel_rfl) (.and mt_laws_eqReply .none)
theorem mt_laws_FnExactOffersTo : Mt (fun _ _ _ => False) Try.prog 3 x_laws_FnExactOffersTo := .by Try.func3 (by kernel_rfl) (l := [(9, x_laws_szReplyS), (11, x_laws_toReplyS), (10, x_spec_OffersTo), (11, x_laws_toReplyS), (12, x_impl_OffersTo), (11, x_laws_toReplyS), (13, x_laws_eqReplyS)]) (by kernel_rfl) (.and mt_laws_szReplyS (.and mt_laws_toReplyS (.and mt_spec_OffersTo (.and mt_laws_toReplyS (.and mt_impl_OffersTo (.and mt_laws_toReplyS (.and mt_laws_eqReplyS .none)))))))
end Go.Proofs.Ytbhgiebhemcljaa
