/- The rows of both texts are alike at k below 12. -/
import Derived.Test.YtnnondbimdmcaaaDoorR9
namespace Go.Proofs.YtnnondbimdmcaaaDoor.Plain
open Go.RowKit Go.Proofs.YtnnondbimdmcaaaDoorW.PrintWords Go.Proofs.YtnnondbimdmcaaaDoorW.PrintLast Go.Proofs.YtnnondbimdmcaaaDoor.F
set_option linter.unusedVariables false
attribute [local instance] someErrs

theorem rowOk_0 : rowOk 0 = true := by kernel_rfl
theorem rowOk_1 : rowOk 1 = true := by kernel_rfl
theorem rowOk_2 : rowOk 2 = true := by kernel_rfl
theorem rowOk_3 : rowOk 3 = true := by kernel_rfl
theorem rowOk_4 : rowOk 4 = true := by kernel_rfl
theorem rowOk_5 : rowOk 5 = true := by kernel_rfl
theorem rowOk_6 : rowOk 6 = true := by kernel_rfl
theorem rowOk_7 : rowOk 7 = true := by kernel_rfl
theorem rowOk_8 : rowOk 8 = true := by kernel_rfl
theorem rowOk_9 : rowOk 9 = true := by kernel_rfl
theorem rowOk_10 : rowOk 10 = true := by kernel_rfl
theorem rowOk_11 : rowOk 11 = true := by kernel_rfl
end Go.Proofs.YtnnondbimdmcaaaDoor.Plain
