/- The plain law of HalfCarries: for every k and r: the chapter's examples stand; where k and r are legal (some hundred pairs), the kernel reckons the rest. -/
import Derived.Test.YtnnondbimdmcaaaDoorF3
import Derived.KernelRfl
namespace Go.Proofs.YtnnondbimdmcaaaDoor.Pure
open Go.RowKit Go.Proofs.YtnnondbimdmcaaaDoorW.PrintWords Go.Proofs.YtnnondbimdmcaaaDoorW.PrintLast

theorem carries_pairs : ((List.range 17).all fun a => (List.range 17).all fun b => decide (F.tesseralaw05_HalfCarries.f 300 (a : Int) (b : Int) = some true)) = true := by kernel_rfl

theorem carries_alive : F.tesseralaw05_alive.f 300 = some true := by kernel_rfl

theorem HalfCarries : ∀ (a0 : Int) (a1 : Int), (Lit.int .i64 a0).wf = true → (Lit.int .i64 a1).wf = true → ∃ k, F.tesseralaw05_HalfCarries.f k a0 a1 = some true := by
  intro a b ha hb
  refine ⟨300, ?_⟩
  by_cases hin : 0 ≤ a ∧ a ≤ 16 ∧ 0 ≤ b ∧ b ≤ 16
  · obtain ⟨h0, h1, h2, h3⟩ := hin
    have h := List.all_eq_true.1 carries_pairs a.toNat (List.mem_range.2 (by omega))
    have h' := List.all_eq_true.1 h b.toNat (List.mem_range.2 (by omega))
    have e := of_decide_eq_true h'
    rwa [Int.toNat_of_nonneg h0, Int.toNat_of_nonneg h2] at e
  · unfold F.tesseralaw05_HalfCarries.f
    rw [carries_alive, Option.bind_some, if_pos rfl]
    have hl : F.tesseraref04_Legal.f a b = some false := by
      unfold F.tesseraref04_Legal.f
      by_cases c0 : a ≥ 1
      · by_cases c1 : a ≤ 16
        · by_cases c2 : b ≥ 2
          · by_cases c3 : b ≤ 16
            · exact absurd ⟨by omega, c1, by omega, c3⟩ hin
            · rw [if_pos c0, if_pos c1, if_pos c2, if_neg c3]
          · rw [if_pos c0, if_pos c1, if_neg c2]
        · rw [if_pos c0, if_neg c1]
      · rw [if_neg c0]
    rw [hl, Option.bind_some, if_neg (by decide)]

end Go.Proofs.YtnnondbimdmcaaaDoor.Pure
