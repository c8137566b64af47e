/- The plain law of HalfCount: for every k and r: where k and r are legal (some hundred pairs), the kernel reckons all names; else Name refuses. -/
import Derived.Test.YtnnondbimdmcaaaDoorF7
import Derived.Test.YtnnondbimdmcaaaDoorM2
namespace Go.Proofs.YtnnondbimdmcaaaDoor.Pure
open Go.RowKit Go.Proofs.YtnnondbimdmcaaaDoorW.PrintWords Go.Proofs.YtnnondbimdmcaaaDoorW.PrintLast Go.Proofs.YtnnondbimdmcaaaDoor.F Go.Proofs.YtnnondbimdmcaaaDoor.Plain
set_option linter.unusedVariables false

def countOk (a : Nat) : Bool := (List.range 17).all fun b => !(legalB a b) || decide (tesseralaw05_HalfCount.f 700 (a : Int) (b : Int) = some true)
theorem count0 : countOk 0 = true := by kernel_rfl
theorem count1 : countOk 1 = true := by kernel_rfl
theorem count2 : countOk 2 = true := by kernel_rfl
theorem count3 : countOk 3 = true := by kernel_rfl
theorem count4 : countOk 4 = true := by kernel_rfl
theorem count5 : countOk 5 = true := by kernel_rfl
theorem count6 : countOk 6 = true := by kernel_rfl
theorem count7 : countOk 7 = true := by kernel_rfl
theorem count8 : countOk 8 = true := by kernel_rfl
theorem count9 : countOk 9 = true := by kernel_rfl
theorem count10 : countOk 10 = true := by kernel_rfl
theorem count11 : countOk 11 = true := by kernel_rfl
theorem count12 : countOk 12 = true := by kernel_rfl
theorem count13 : countOk 13 = true := by kernel_rfl
theorem count14 : countOk 14 = true := by kernel_rfl
theorem count15 : countOk 15 = true := by kernel_rfl
theorem count16 : countOk 16 = true := by kernel_rfl
theorem count_alive : tesseralaw05_alive.f 700 = some true := by kernel_rfl
theorem count_all (a : Nat) (h : a < 17) : countOk a = true := by
  rcases a with _ | _ | _ | _ | _ | _ | _ | _ | _ | _ | _ | _ | _ | _ | _ | _ | _ | a
  · exact count0
  · exact count1
  · exact count2
  · exact count3
  · exact count4
  · exact count5
  · exact count6
  · exact count7
  · exact count8
  · exact count9
  · exact count10
  · exact count11
  · exact count12
  · exact count13
  · exact count14
  · exact count15
  · exact count16
  · omega

theorem HalfCount : ∀ (a0 : Int) (a1 : Int), (Lit.int .i64 a0).wf = true → (Lit.int .i64 a1).wf = true → ∃ k, tesseralaw05_HalfCount.f k a0 a1 = some true := by
  intro a b ha hb
  refine ⟨700, ?_⟩
  rcases legal_cases a b with ⟨A, B, rfl, rfl, hl, hL, hC⟩ | ⟨hL, hC⟩
  · have hb' : B < 17 := by have : (1 ≤ A ∧ 2 ≤ B) ∧ A + B ≤ 16 := by simpa [legalB] using hl
                            omega
    have ha' : A < 17 := by have : (1 ≤ A ∧ 2 ≤ B) ∧ A + B ≤ 16 := by simpa [legalB] using hl
                            omega
    have h := List.all_eq_true.1 (count_all A ha') B (List.mem_range.2 hb')
    rw [hl, Bool.not_true, Bool.false_or] at h
    exact of_decide_eq_true h
  · unfold tesseralaw05_HalfCount.f
    have hN : half_Name.f a b 0 = some (⟨#[]⟩, some 1) := by
      unfold half_Name.f half_check.f
      rw [hC]; rfl
    rw [count_alive, Option.bind_some, if_pos rfl, hL, Option.bind_some, if_neg (by decide), hN]
    rfl

end Go.Proofs.YtnnondbimdmcaaaDoor.Pure
