/- The rows of both texts are alike at k of 12 and more. -/
import Derived.Test.YtnnondbimdmcaaaDoorR9
namespace Go.Proofs.YtnnondbimdmcaaaDoor.Plain
open Go.RowKit Go.Proofs.YtnnondbimdmcaaaDoorW.PrintWords Go.Proofs.YtnnondbimdmcaaaDoorW.PrintLast Go.Proofs.YtnnondbimdmcaaaDoor.F
set_option linter.unusedVariables false
attribute [local instance] someErrs

theorem rowOk_12 : rowOk 12 = true := by kernel_rfl
theorem rowOk_13 : rowOk 13 = true := by kernel_rfl
theorem rowOk_14 : rowOk 14 = true := by kernel_rfl
theorem rowOk_15 : rowOk 15 = true := by kernel_rfl
theorem rowOk_16 : rowOk 16 = true := by kernel_rfl
end Go.Proofs.YtnnondbimdmcaaaDoor.Plain
