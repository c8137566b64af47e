/- The rows of halves written out, at k of 11 and more. -/
import Derived.Test.YtndnedjclbigiaaDoorO9
namespace Go.Proofs.YtndnedjclbigiaaDoor.Plain
open Go.RowKit Go.Proofs.YtndnedjclbigiaaDoorW.PrintWords Go.Proofs.YtndnedjclbigiaaDoorW.PrintLast Go.Proofs.YtndnedjclbigiaaDoor.F
set_option linter.unusedVariables false
attribute [local instance] someErrs
theorem spOk2_11 : spOk2 11 = true := by kernel_rfl
theorem spOk2_12 : spOk2 12 = true := by kernel_rfl
theorem spOk2_13 : spOk2 13 = true := by kernel_rfl
theorem spOk2_14 : spOk2 14 = true := by kernel_rfl
theorem spOk2_15 : spOk2 15 = true := by kernel_rfl
theorem spOk2_16 : spOk2 16 = true := by kernel_rfl
theorem sp2_all (a : Nat) (h : a < 17) : spOk2 a = true := by
  rcases a with _ | _ | _ | _ | _ | _ | _ | _ | _ | _ | _ | _ | _ | _ | _ | _ | _ | a
  · exact spOk2_0
  · exact spOk2_1
  · exact spOk2_2
  · exact spOk2_3
  · exact spOk2_4
  · exact spOk2_5
  · exact spOk2_6
  · exact spOk2_7
  · exact spOk2_8
  · exact spOk2_9
  · exact spOk2_10
  · exact spOk2_11
  · exact spOk2_12
  · exact spOk2_13
  · exact spOk2_14
  · exact spOk2_15
  · exact spOk2_16
  · omega
end Go.Proofs.YtndnedjclbigiaaDoor.Plain
