/- The plain law of HalfImages. -/
import Derived.Test.YtnnondbimdmcaaaDoorF8
import Derived.Test.YtnnondbimdmcaaaDoorM1
namespace Go.Proofs.YtnnondbimdmcaaaDoor.Pure
open Go.RowKit Go.Proofs.YtnnondbimdmcaaaDoorW.PrintWords Go.Proofs.YtnnondbimdmcaaaDoorW.PrintLast Go.Proofs.YtnnondbimdmcaaaDoor.F Go.Proofs.YtnnondbimdmcaaaDoor.Plain
set_option linter.unusedVariables false

def imagesT (k : Nat) (a0 : Int) (a1 : Int) : Option (Bool) := (rowsT k a0 a1).bind fun bt301 => (if ((isNil bt301.2.2.2) = true) then (if bt301.1 = (wrap64 (2 * (wrap64 (a0 + a1)))) then (tesseralaw05_HalfImages.j0 (k + 20) a0 a1 (bt301.2.1 != (wrap64 (2 * a0))) bt301.1 bt301.2.1 bt301.2.2.1) else (tesseralaw05_HalfImages.j0 (k + 20) a0 a1 true bt301.1 bt301.2.1 bt301.2.2.1)) else (tesseralaw05_HalfImages.j0 (k + 20) a0 a1 true bt301.1 bt301.2.1 bt301.2.2.1))

theorem imagesT_le (k : Nat) (a b : Int) (ha : tesseralaw05_alive.f (k + 20) = some true) (hl : tesseraref04_Legal.f a b = some true) : LeO (imagesT k a b) (tesseralaw05_HalfImages.f (k + 20) a b) := by
  unfold imagesT tesseralaw05_HalfImages.f
  rw [ha, Option.bind_some, if_pos rfl, hl, Option.bind_some, if_pos rfl]
  exact LeO.bind (rowsT_le k a b) (fun x => LeO.refl _)

def pairsOk (a : Nat) : Bool := (List.range 17).all fun b => !(decide (tesseraref04_Legal.f (a : Int) (b : Int) = some true)) || decide (imagesT 300 (a : Int) (b : Int) = some true)
theorem pairs0 : pairsOk 0 = true := by kernel_rfl
theorem pairs1 : pairsOk 1 = true := by kernel_rfl
theorem pairs2 : pairsOk 2 = true := by kernel_rfl
theorem pairs3 : pairsOk 3 = true := by kernel_rfl
theorem pairs4 : pairsOk 4 = true := by kernel_rfl
theorem pairs5 : pairsOk 5 = true := by kernel_rfl
theorem pairs6 : pairsOk 6 = true := by kernel_rfl
theorem pairs7 : pairsOk 7 = true := by kernel_rfl
theorem pairs8 : pairsOk 8 = true := by kernel_rfl
theorem pairs9 : pairsOk 9 = true := by kernel_rfl
theorem pairs10 : pairsOk 10 = true := by kernel_rfl
theorem pairs11 : pairsOk 11 = true := by kernel_rfl
theorem pairs12 : pairsOk 12 = true := by kernel_rfl
theorem pairs13 : pairsOk 13 = true := by kernel_rfl
theorem pairs14 : pairsOk 14 = true := by kernel_rfl
theorem pairs15 : pairsOk 15 = true := by kernel_rfl
theorem pairs16 : pairsOk 16 = true := by kernel_rfl
theorem images_alive : tesseralaw05_alive.f 320 = some true := by kernel_rfl
theorem pairs_all (a : Nat) (h : a < 17) : pairsOk a = true := by
  rcases a with _ | _ | _ | _ | _ | _ | _ | _ | _ | _ | _ | _ | _ | _ | _ | _ | _ | a
  · exact pairs0
  · exact pairs1
  · exact pairs2
  · exact pairs3
  · exact pairs4
  · exact pairs5
  · exact pairs6
  · exact pairs7
  · exact pairs8
  · exact pairs9
  · exact pairs10
  · exact pairs11
  · exact pairs12
  · exact pairs13
  · exact pairs14
  · exact pairs15
  · exact pairs16
  · omega

theorem HalfImages : ∀ (a0 : Int) (a1 : Int), (Lit.int .i64 a0).wf = true → (Lit.int .i64 a1).wf = true → ∃ k, tesseralaw05_HalfImages.f k a0 a1 = some true := by
  intro a b ha hb
  refine ⟨320, ?_⟩
  have hcases : tesseraref04_Legal.f a b = some true ∨ tesseraref04_Legal.f a b = some false := by
    unfold tesseraref04_Legal.f
    repeat' split
    all_goals first | exact .inr rfl | (cases decide (wrap64 (a + b) ≤ 16) <;> simp)
  rcases hcases with hl | hl
  · have hin : 0 ≤ a ∧ a ≤ 16 ∧ 0 ≤ b ∧ b ≤ 16 := by
      unfold tesseraref04_Legal.f at hl
      by_cases c0 : a ≥ 1
      · by_cases c1 : a ≤ 16
        · by_cases c2 : b ≥ 2
          · by_cases c3 : b ≤ 16
            · exact ⟨by omega, c1, by omega, c3⟩
            · rw [if_pos c0, if_pos c1, if_pos c2, if_neg c3] at hl; cases hl
          · rw [if_pos c0, if_pos c1, if_neg c2] at hl; cases hl
        · rw [if_pos c0, if_neg c1] at hl; cases hl
      · rw [if_neg c0] at hl; cases hl
    obtain ⟨h0, h1, h2, h3⟩ := hin
    have h := List.all_eq_true.1 (pairs_all a.toNat (by omega)) b.toNat (List.mem_range.2 (by omega))
    rw [Int.toNat_of_nonneg h0, Int.toNat_of_nonneg h2, hl, decide_eq_true rfl, Bool.not_true, Bool.false_or] at h
    exact imagesT_le 300 a b images_alive hl true (of_decide_eq_true h)
  · unfold tesseralaw05_HalfImages.f
    rw [images_alive, Option.bind_some, if_pos rfl, hl, Option.bind_some, if_neg (by decide)]

end Go.Proofs.YtnnondbimdmcaaaDoor.Pure
