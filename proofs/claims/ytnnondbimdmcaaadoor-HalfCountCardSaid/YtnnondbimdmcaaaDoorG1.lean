import Derived.Test.YtnnondbimdmcaaaDoorE
import Derived.Test.YtnnondbimdmcaaaDoorShelf
namespace Go.Proofs.YtnnondbimdmcaaaDoor
open Go.RowKit Go.Proofs.YtnnondbimdmcaaaDoorW.PrintWords Go.Proofs.YtnnondbimdmcaaaDoorW.PrintLast Go.Proofs.YtnnondbimdmcaaaDoor
set_option linter.unusedSectionVars false
set_option linter.unusedSimpArgs false
set_option linter.unusedVariables false
variable [Errs]

/-! strconv.Itoa below 100: the shelf's road without the table. -/
def strconv_Itoa.f (a0 : Int) : Option ByteArray := if 0 ≤ a0 then (if a0 < 100 then some ⟨(Lib.decDigits a0.toNat).toArray⟩ else none) else none
omit [Errs] in
theorem strconv_Itoa.calls (a0 : Int) (r : ByteArray) (w : World) (h : strconv_Itoa.f a0 = some r) :
    Calls Tryd.prog 35 #[.int .i64 a0] w fun e w' => e = .returned (.string r) ∧ Drawn0 w w' := by
  unfold strconv_Itoa.f at h
  by_cases h0 : 0 ≤ a0
  · rw [if_pos h0] at h
    by_cases h1 : a0 < 100
    · rw [if_pos h1] at h
      obtain rfl := Option.some.inj h
      have e : ((a0.toNat : Nat) : Int) = a0 := Int.toNat_of_nonneg h0
      have c := Tryd.strconv_Itoa_small a0.toNat (by omega) w
      rw [e] at c
      refine c.mono ?_
      rintro e w' ⟨rfl, rfl⟩
      exact ⟨rfl, Drawn0.refl _⟩
    · rw [if_neg h1] at h; cases h
  · rw [if_neg h0] at h; cases h
end Go.Proofs.YtnnondbimdmcaaaDoor
