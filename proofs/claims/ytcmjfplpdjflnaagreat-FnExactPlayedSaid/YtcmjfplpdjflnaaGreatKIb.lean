/- Functions of the program as typed texts and as plain functions. -/
import Derived.Test.YtcmjfplpdjflnaaGreatKGb
set_option linter.unusedVariables false
set_option linter.unusedSimpArgs false
set_option linter.unusedSectionVars false
set_option maxRecDepth 100000
namespace Lv
open Go (IntKind BinOp UnOp)
open Y (YF qn qf qt qr q1 qd qm qa qo ql qL qb qi qx qp qq qc qz qe qk qK qB qw qu qj Kp wn wf wt w1 sw sq sr wm wM wo wO wl wL wk wK wz wZ wx wX wb wB wi wI wr wR wq wQ we wE wc wY wj wh cv ca cx cn ce bl)
end Lv
set_option maxRecDepth 100000
namespace Lv
open Go (IntKind BinOp UnOp)
open Y (YF qn qf qt qr q1 qd qm qa qo ql qL qb qi qx qp qq qc qz qe qk qK qB qw qu qj Kp wn wf wt w1 sw sq sr wm wM wo wO wl wL wk wK wz wZ wx wX wb wB wi wI wr wR wq wQ we wE wc wY wj wh cv ca cx cn ce bl)
end Lv
