/- The plain law of HalfNames: Name and Parse of every number and every text. -/
import Derived.Test.YtnnondbimdmcaaaDoorF4
import Derived.Test.YtnnondbimdmcaaaDoorM2
namespace Go.Proofs.YtnnondbimdmcaaaDoor.Pure
open Go.RowKit Go.Proofs.YtnnondbimdmcaaaDoorW.PrintWords Go.Proofs.YtnnondbimdmcaaaDoorW.PrintLast Go.Proofs.YtnnondbimdmcaaaDoor.F Go.Proofs.YtnnondbimdmcaaaDoor.Plain
set_option linter.unusedVariables false
attribute [local instance] nameErrs

theorem names_alive : tesseralaw05_alive.f 200 = some true := by kernel_rfl

theorem empty_toList : (⟨#[]⟩ : ByteArray).toList = ([] : List UInt8) := by kernel_rfl
/-- The law's last loop. -/
theorem names_loop {a b : Nat} (N : Names a b) (t : ByteArray) : ∀ (d i K : Nat), i + d = 2 * (a + b) → d + 21 < K → fm a b t 0 (2 * (a + b)) = fm a b t i d →
    tesseralaw05_HalfNames.l0 K (a : Int) (b : Int) t (res (fm a b t 0 (2 * (a + b)))).1 (res (fm a b t 0 (2 * (a + b)))).2 (i : Int) = some true := by
  intro d
  induction d with
  | zero =>
    intro i K hi hK he
    obtain ⟨K, rfl⟩ : ∃ m, K = m + 1 := ⟨K - 1, by omega⟩
    have lab := N.lab
    have hw : wrap64 (2 * wrap64 ((a : Int) + (b : Int))) = ((2 * (a + b) : Nat) : Int) := by unfold wrap64; omega
    rw [tesseralaw05_HalfNames.l0, hw, if_neg (by omega), he]
    rfl
  | succ d ih =>
    intro i K hi hK he
    obtain ⟨K, rfl⟩ : ∃ m, K = m + 1 := ⟨K - 1, by omega⟩
    have lab := N.lab
    have hw : wrap64 (2 * wrap64 ((a : Int) + (b : Int))) = ((2 * (a + b) : Nat) : Int) := by unfold wrap64; omega
    rw [tesseralaw05_HalfNames.l0, hw, if_pos (by omega), N.ref i (by omega) K (by omega), Option.bind_some]
    rw [fm] at he
    by_cases e : (nm a b i).toList = t.toList
    · rw [if_pos e] at he
      rw [if_pos e, he]
      simp [res, isNil]
    · rw [if_neg e] at he
      have hw1 : wrap64 ((i : Int) + 1) = ((i + 1 : Nat) : Int) := by unfold wrap64; omega
      rw [if_neg e, hw1]
      exact ih (i + 1) K (by omega) (by omega) he

theorem HalfNames : ∀ (a0_0 : Int) (a0_1 : Int) (a0_2 : Int) (a0_3 : ByteArray), (Lit.int .i64 a0_0).wf = true → (Lit.int .i64 a0_1).wf = true → (Lit.int .i64 a0_2).wf = true → a0_3.size ≤ maxLen → ∃ k, tesseralaw05_HalfNames.f k a0_0 a0_1 a0_2 a0_3 = some true := by
  intro a b n t ha hb hn ht
  refine ⟨200, ?_⟩
  unfold tesseralaw05_HalfNames.f
  rw [names_alive, Option.bind_some, if_pos rfl]
  rcases legal_cases a b with ⟨A, B, rfl, rfl, hl, hL, hC⟩ | ⟨hL, hC⟩
  · have N := names_of A B hl
    have lab := N.lab
    have hw : wrap64 (2 * wrap64 ((A : Int) + (B : Int))) = ((2 * (A + B) : Nat) : Int) := by unfold wrap64; omega
    have hp := parse_all N hC t 200 (by omega)
    have hloop := names_loop N t (2 * (A + B)) 0 198 (by omega) (by omega) rfl
    by_cases h0 : n < 0
    · have hN : half_Name.f (A : Int) (B : Int) n = some (⟨#[]⟩, some 4) := by
        unfold half_Name.f half_check.f
        rw [hC]; simp [h0]
      rw [hN, Option.bind_some, hp, Option.bind_some, hL, Option.bind_some, if_pos rfl, if_pos h0]
      rw [show (200 : Nat) = 199 + 1 from rfl, tesseralaw05_HalfNames.j0]
      simp only [if_true]
      rw [if_pos (by decide), if_pos (by decide), if_pos empty_toList, show (199 : Nat) = 198 + 1 from rfl, tesseralaw05_HalfNames.j1]
      exact hloop
    · by_cases h1 : n ≥ ((2 * (A + B) : Nat) : Int)
      · have hN : half_Name.f (A : Int) (B : Int) n = some (⟨#[]⟩, some 4) := by
          unfold half_Name.f half_check.f
          rw [hC, hw]; simp only [Option.bind_some, Option.isNone_none, if_true]
          rw [if_neg h0, if_pos h1]; rfl
        rw [hN, Option.bind_some, hp, Option.bind_some, hL, Option.bind_some, if_pos rfl, if_neg h0, hw, decide_eq_true h1]
        rw [show (200 : Nat) = 199 + 1 from rfl, tesseralaw05_HalfNames.j0]
        simp only [if_true]
        rw [if_pos (by decide), if_pos (by decide), if_pos empty_toList, show (199 : Nat) = 198 + 1 from rfl, tesseralaw05_HalfNames.j1]
        exact hloop
      · obtain ⟨h, rfl⟩ : ∃ h : Nat, n = h := ⟨n.toNat, by omega⟩
        have hh : h < 2 * (A + B) := by omega
        rw [N.name h hh, Option.bind_some, hp, Option.bind_some, hL, Option.bind_some, if_pos rfl, if_neg h0, hw, decide_eq_false h1]
        rw [show (200 : Nat) = 199 + 1 from rfl, tesseralaw05_HalfNames.j0, if_neg (by decide), parse_all N hC _ 199 (by omega), Option.bind_some]
        rw [fm_own N h hh _ 0 (by omega) (by omega)]
        rw [if_pos (by rfl), N.ref h hh 199 (by omega), Option.bind_some, if_pos rfl, if_pos (by rfl), if_pos (by rfl)]
        rw [show (199 : Nat) = 198 + 1 from rfl, tesseralaw05_HalfNames.j1]
        exact hloop
  · have hN : half_Name.f a b n = some (⟨#[]⟩, some 1) := by
      unfold half_Name.f half_check.f
      rw [hC]; rfl
    have hP : half_Parse.f 200 a b t = some (0, some 1) := by
      unfold half_Parse.f
      rw [hC]; rfl
    rw [hN, Option.bind_some, hP, Option.bind_some, hL, Option.bind_some, if_neg (by decide), if_pos (by decide), if_pos (by decide), if_pos (by decide), if_pos (by decide), if_pos empty_toList]
    rfl

end Go.Proofs.YtnnondbimdmcaaaDoor.Pure
