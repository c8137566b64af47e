/- What some functions come to, each a function of its own text; joined out of: F24, F25, F12, F26, F27, F16, F37, F17, M2, SenHalfNumbers. No conditions but those in each theorem. -/
import Derived.Test.YtnnondbimdmcaaaDoorN1
import Derived.KernelRfl
import Derived.Test.YtnnondbimdmcaaaDoorRows
import Derived.WalkKit
import Derived.ProofKit
import Derived.OpenShut
import Derived.ShutString
import Derived.ChangeOld
import Derived.Below
import Derived.SizedLaws
import Derived.LaidLaws
import Derived.LaidMore
import Derived.LaidHandle
import Derived.LaidOnce
import Derived.Stop.LaidErr
import Derived.SevenTiedAt
import Derived.JoinedOf
import Derived.RowKit
import Derived.RowKitTokens
import Derived.ChangeVars
import Derived.ChangeSame
import Derived.Lib.SmallJoins
namespace Go.Proofs.YtnnondbimdmcaaaDoor.F
open Go.RowKit Go.Proofs.YtnnondbimdmcaaaDoorW.PrintWords Go.Proofs.YtnnondbimdmcaaaDoorW.PrintLast Go.Proofs.YtnnondbimdmcaaaDoorW.PrintMore
attribute [local go_sem] max2_int min2_int max_two min_two max_three min_three max_four min_four   -- for this text's walks alone
set_option linter.unusedVariables false
set_option linter.unusedSimpArgs false
set_option linter.unusedSectionVars false
open Go.Proofs.YtnnondbimdmcaaaDoor
variable [Errs]

/-! ### half_Of: function 24 -/
def half_Of.L : List Int := [1, 4]
def half_Of.f (a0 : Int) (a1 : Int) (a2 : Int) (a3 : Int) : Option (Int × Option Int) := (base_Check.f a0 a1).bind fun t192 => (if t192.isNone = true then (if a2 < 0 then (some (0, some 4)) else (if a2 ≥ (wrap64 (a0 + a1)) then (some (0, some 4)) else (if a3 < 0 then (some (0, some 4)) else (if a3 > 1 then (some (0, some 4)) else ((half_place_number.f a2 a3).bind fun t194 => (some (t194, none))))))) else (some (0, some (t192.getD 0))))
set_option maxHeartbeats 8000000 in
set_option maxRecDepth 100000 in
theorem half_Of.calls (a0 : Int) (a1 : Int) (a2 : Int) (a3 : Int) (r1 : Int) (r2 : Option Int) (w : World) (h : half_Of.f a0 a1 a2 a3 = some (r1, r2)) (hS : Sent half_Of.L w) :
    Calls Tryd.prog 24 #[.int .i64 a0, .int .i64 a1, .int .i64 a2, .int .i64 a3] w fun e w' => e = .returned (.tuple #[.int .i64 r1, errW r2]) ∧ Below w.heap.size w w' := by
  have hu68 := Tryd.underlying68
  have hu27 := Tryd.underlying27
  have HB := Aside0.mk (Below.refl w.heap.size w)
  have HS := Aside0.mk hS
  have hgl4 := Sent.cell hS 4 1 rfl (by decide)
  simp only [errW_some] at hgl4
  have hglw4 := Sent.cell0 hS 4 1 rfl (by decide)
  simp only [errW_some] at hglw4
  clear hS
  have H : ((base_Check.f a0 a1).bind fun t192 => (if t192.isNone = true then (if a2 < 0 then (some (0, some 4)) else (if a2 ≥ (wrap64 (a0 + a1)) then (some (0, some 4)) else (if a3 < 0 then (some (0, some 4)) else (if a3 > 1 then (some (0, some 4)) else ((half_place_number.f a2 a3).bind fun t194 => (some (t194, none))))))) else (some (0, some (t192.getD 0))))) = some (r1, r2) := h
  clear h
  replace H := Option.bind_eq_some_iff.mp H
  obtain ⟨t192, A50, H⟩ := H
  replace H : (if t192.isNone = true then (if a2 < 0 then (some (0, some 4)) else (if a2 ≥ (wrap64 (a0 + a1)) then (some (0, some 4)) else (if a3 < 0 then (some (0, some 4)) else (if a3 > 1 then (some (0, some 4)) else ((half_place_number.f a2 a3).bind fun t194 => (some (t194, none))))))) else (some (0, some (t192.getD 0)))) = some (r1, r2) := H
  have A5 := Aside0.mk A50
  clear A50
  rcases t192 with _ | q193
  · have H1 : (if a2 < 0 then (some (0, some 4)) else (if a2 ≥ (wrap64 (a0 + a1)) then (some (0, some 4)) else (if a3 < 0 then (some (0, some 4)) else (if a3 > 1 then (some (0, some 4)) else ((half_place_number.f a2 a3).bind fun t194 => (some (t194, none))))))) = some (r1, r2) := by rw [if_pos (show (none : Option Int).isNone = true by rfl)] at H; exact H
    clear H
    have H := H1
    clear H1
    try simp only [errW_none, errW_some]
    by_cases c6 : a2 < 0
    · rw [if_pos c6] at H
      have c6b0 : decide (a2 < 0) = true := decide_eq_true c6
      clear c6
      simp only [Option.some.injEq, Prod.mk.injEq] at H
      obtain ⟨rfl, rfl⟩ := H
      go_enter Tryd.func24, Tryd.ntmps24
      go_wp2_with (first | (go_at_call 36; (with_reducible refine (base_Check.calls a0 a1 none _ A5.out (Sent.sub (show ∀ c, c ∈ base_Check.L → c ∈ half_Of.L by decide) (Sent.below HS.out (by repeat (first | (with_reducible first | exact HB.out | apply below_alloc | apply pw_below_drewN | apply below_drew1) | exact HB.out))))).mono ?_); rintro e w' ⟨rfl, ⟨nd, rfl⟩⟩; (try simp only [errW_none, errW_some]); (try first | exact ⟨rfl, _, World.drewN_drewN _ _ _⟩ | exact ⟨rfl, _, Eq.trans (World.drewN_drewN _ _ _) (congrArg (World.drewN _) (Nat.add_assoc _ _ _))⟩)))
      repeat (go_quiet (first | (go_at_call 36; (with_reducible refine (base_Check.calls a0 a1 none _ A5.out (Sent.sub (show ∀ c, c ∈ base_Check.L → c ∈ half_Of.L by decide) (Sent.below HS.out (by repeat (first | (with_reducible first | exact HB.out | apply below_alloc | apply pw_below_drewN | apply below_drew1) | exact HB.out))))).mono ?_); rintro e w' ⟨rfl, ⟨nd, rfl⟩⟩; (try simp only [errW_none, errW_some]); (try first | exact ⟨rfl, _, World.drewN_drewN _ _ _⟩ | exact ⟨rfl, _, Eq.trans (World.drewN_drewN _ _ _) (congrArg (World.drewN _) (Nat.add_assoc _ _ _))⟩))); try go_wp2_with (first | (go_at_call 36; (with_reducible refine (base_Check.calls a0 a1 none _ A5.out (Sent.sub (show ∀ c, c ∈ base_Check.L → c ∈ half_Of.L by decide) (Sent.below HS.out (by repeat (first | (with_reducible first | exact HB.out | apply below_alloc | apply pw_below_drewN | apply below_drew1) | exact HB.out))))).mono ?_); rintro e w' ⟨rfl, ⟨nd, rfl⟩⟩; (try simp only [errW_none, errW_some]); (try first | exact ⟨rfl, _, World.drewN_drewN _ _ _⟩ | exact ⟨rfl, _, Eq.trans (World.drewN_drewN _ _ _) (congrArg (World.drewN _) (Nat.add_assoc _ _ _))⟩))))
      go_ret2
      exact ⟨by first | rfl | (simp [errW_none, errW_some] <;> rfl) | (simp [*, errW_none, errW_some] <;> rfl), by repeat (first | (with_reducible first | exact HB.out | apply below_alloc | apply pw_below_drewN | apply below_drew1) | exact HB.out)⟩
    · rw [if_neg c6] at H
      have c6b0 : decide (a2 < 0) = false := decide_eq_false c6
      clear c6
      by_cases c7 : a2 ≥ (wrap64 (a0 + a1))
      · rw [if_pos c7] at H
        have c7b0 : decide ((wrap64 (a0 + a1)) ≤ a2) = true := decide_eq_true c7
        clear c7
        simp only [Option.some.injEq, Prod.mk.injEq] at H
        obtain ⟨rfl, rfl⟩ := H
        go_enter Tryd.func24, Tryd.ntmps24
        go_wp2_with (first | (go_at_call 36; (with_reducible refine (base_Check.calls a0 a1 none _ A5.out (Sent.sub (show ∀ c, c ∈ base_Check.L → c ∈ half_Of.L by decide) (Sent.below HS.out (by repeat (first | (with_reducible first | exact HB.out | apply below_alloc | apply pw_below_drewN | apply below_drew1) | exact HB.out))))).mono ?_); rintro e w' ⟨rfl, ⟨nd, rfl⟩⟩; (try simp only [errW_none, errW_some]); (try first | exact ⟨rfl, _, World.drewN_drewN _ _ _⟩ | exact ⟨rfl, _, Eq.trans (World.drewN_drewN _ _ _) (congrArg (World.drewN _) (Nat.add_assoc _ _ _))⟩)))
        repeat (go_quiet (first | (go_at_call 36; (with_reducible refine (base_Check.calls a0 a1 none _ A5.out (Sent.sub (show ∀ c, c ∈ base_Check.L → c ∈ half_Of.L by decide) (Sent.below HS.out (by repeat (first | (with_reducible first | exact HB.out | apply below_alloc | apply pw_below_drewN | apply below_drew1) | exact HB.out))))).mono ?_); rintro e w' ⟨rfl, ⟨nd, rfl⟩⟩; (try simp only [errW_none, errW_some]); (try first | exact ⟨rfl, _, World.drewN_drewN _ _ _⟩ | exact ⟨rfl, _, Eq.trans (World.drewN_drewN _ _ _) (congrArg (World.drewN _) (Nat.add_assoc _ _ _))⟩))); try go_wp2_with (first | (go_at_call 36; (with_reducible refine (base_Check.calls a0 a1 none _ A5.out (Sent.sub (show ∀ c, c ∈ base_Check.L → c ∈ half_Of.L by decide) (Sent.below HS.out (by repeat (first | (with_reducible first | exact HB.out | apply below_alloc | apply pw_below_drewN | apply below_drew1) | exact HB.out))))).mono ?_); rintro e w' ⟨rfl, ⟨nd, rfl⟩⟩; (try simp only [errW_none, errW_some]); (try first | exact ⟨rfl, _, World.drewN_drewN _ _ _⟩ | exact ⟨rfl, _, Eq.trans (World.drewN_drewN _ _ _) (congrArg (World.drewN _) (Nat.add_assoc _ _ _))⟩))))
        go_ret2
        exact ⟨by first | rfl | (simp [errW_none, errW_some] <;> rfl) | (simp [*, errW_none, errW_some] <;> rfl), by repeat (first | (with_reducible first | exact HB.out | apply below_alloc | apply pw_below_drewN | apply below_drew1) | exact HB.out)⟩
      · rw [if_neg c7] at H
        have c7b0 : decide ((wrap64 (a0 + a1)) ≤ a2) = false := decide_eq_false c7
        clear c7
        by_cases c8 : a3 < 0
        · rw [if_pos c8] at H
          have c8b0 : decide (a3 < 0) = true := decide_eq_true c8
          clear c8
          simp only [Option.some.injEq, Prod.mk.injEq] at H
          obtain ⟨rfl, rfl⟩ := H
          go_enter Tryd.func24, Tryd.ntmps24
          go_wp2_with (first | (go_at_call 36; (with_reducible refine (base_Check.calls a0 a1 none _ A5.out (Sent.sub (show ∀ c, c ∈ base_Check.L → c ∈ half_Of.L by decide) (Sent.below HS.out (by repeat (first | (with_reducible first | exact HB.out | apply below_alloc | apply pw_below_drewN | apply below_drew1) | exact HB.out))))).mono ?_); rintro e w' ⟨rfl, ⟨nd, rfl⟩⟩; (try simp only [errW_none, errW_some]); (try first | exact ⟨rfl, _, World.drewN_drewN _ _ _⟩ | exact ⟨rfl, _, Eq.trans (World.drewN_drewN _ _ _) (congrArg (World.drewN _) (Nat.add_assoc _ _ _))⟩)))
          repeat (go_quiet (first | (go_at_call 36; (with_reducible refine (base_Check.calls a0 a1 none _ A5.out (Sent.sub (show ∀ c, c ∈ base_Check.L → c ∈ half_Of.L by decide) (Sent.below HS.out (by repeat (first | (with_reducible first | exact HB.out | apply below_alloc | apply pw_below_drewN | apply below_drew1) | exact HB.out))))).mono ?_); rintro e w' ⟨rfl, ⟨nd, rfl⟩⟩; (try simp only [errW_none, errW_some]); (try first | exact ⟨rfl, _, World.drewN_drewN _ _ _⟩ | exact ⟨rfl, _, Eq.trans (World.drewN_drewN _ _ _) (congrArg (World.drewN _) (Nat.add_assoc _ _ _))⟩))); try go_wp2_with (first | (go_at_call 36; (with_reducible refine (base_Check.calls a0 a1 none _ A5.out (Sent.sub (show ∀ c, c ∈ base_Check.L → c ∈ half_Of.L by decide) (Sent.below HS.out (by repeat (first | (with_reducible first | exact HB.out | apply below_alloc | apply pw_below_drewN | apply below_drew1) | exact HB.out))))).mono ?_); rintro e w' ⟨rfl, ⟨nd, rfl⟩⟩; (try simp only [errW_none, errW_some]); (try first | exact ⟨rfl, _, World.drewN_drewN _ _ _⟩ | exact ⟨rfl, _, Eq.trans (World.drewN_drewN _ _ _) (congrArg (World.drewN _) (Nat.add_assoc _ _ _))⟩))))
          go_ret2
          exact ⟨by first | rfl | (simp [errW_none, errW_some] <;> rfl) | (simp [*, errW_none, errW_some] <;> rfl), by repeat (first | (with_reducible first | exact HB.out | apply below_alloc | apply pw_below_drewN | apply below_drew1) | exact HB.out)⟩
        · rw [if_neg c8] at H
          have c8b0 : decide (a3 < 0) = false := decide_eq_false c8
          clear c8
          by_cases c9 : a3 > 1
          · rw [if_pos c9] at H
            have c9b0 : decide (1 < a3) = true := decide_eq_true c9
            clear c9
            simp only [Option.some.injEq, Prod.mk.injEq] at H
            obtain ⟨rfl, rfl⟩ := H
            go_enter Tryd.func24, Tryd.ntmps24
            go_wp2_with (first | (go_at_call 36; (with_reducible refine (base_Check.calls a0 a1 none _ A5.out (Sent.sub (show ∀ c, c ∈ base_Check.L → c ∈ half_Of.L by decide) (Sent.below HS.out (by repeat (first | (with_reducible first | exact HB.out | apply below_alloc | apply pw_below_drewN | apply below_drew1) | exact HB.out))))).mono ?_); rintro e w' ⟨rfl, ⟨nd, rfl⟩⟩; (try simp only [errW_none, errW_some]); (try first | exact ⟨rfl, _, World.drewN_drewN _ _ _⟩ | exact ⟨rfl, _, Eq.trans (World.drewN_drewN _ _ _) (congrArg (World.drewN _) (Nat.add_assoc _ _ _))⟩)))
            repeat (go_quiet (first | (go_at_call 36; (with_reducible refine (base_Check.calls a0 a1 none _ A5.out (Sent.sub (show ∀ c, c ∈ base_Check.L → c ∈ half_Of.L by decide) (Sent.below HS.out (by repeat (first | (with_reducible first | exact HB.out | apply below_alloc | apply pw_below_drewN | apply below_drew1) | exact HB.out))))).mono ?_); rintro e w' ⟨rfl, ⟨nd, rfl⟩⟩; (try simp only [errW_none, errW_some]); (try first | exact ⟨rfl, _, World.drewN_drewN _ _ _⟩ | exact ⟨rfl, _, Eq.trans (World.drewN_drewN _ _ _) (congrArg (World.drewN _) (Nat.add_assoc _ _ _))⟩))); try go_wp2_with (first | (go_at_call 36; (with_reducible refine (base_Check.calls a0 a1 none _ A5.out (Sent.sub (show ∀ c, c ∈ base_Check.L → c ∈ half_Of.L by decide) (Sent.below HS.out (by repeat (first | (with_reducible first | exact HB.out | apply below_alloc | apply pw_below_drewN | apply below_drew1) | exact HB.out))))).mono ?_); rintro e w' ⟨rfl, ⟨nd, rfl⟩⟩; (try simp only [errW_none, errW_some]); (try first | exact ⟨rfl, _, World.drewN_drewN _ _ _⟩ | exact ⟨rfl, _, Eq.trans (World.drewN_drewN _ _ _) (congrArg (World.drewN _) (Nat.add_assoc _ _ _))⟩))))
            go_ret2
            exact ⟨by first | rfl | (simp [errW_none, errW_some] <;> rfl) | (simp [*, errW_none, errW_some] <;> rfl), by repeat (first | (with_reducible first | exact HB.out | apply below_alloc | apply pw_below_drewN | apply below_drew1) | exact HB.out)⟩
          · rw [if_neg c9] at H
            have c9b0 : decide (1 < a3) = false := decide_eq_false c9
            clear c9
            replace H := Option.bind_eq_some_iff.mp H
            obtain ⟨t194, A100, H⟩ := H
            replace H : (some (t194, none)) = some (r1, r2) := H
            have A10 := Aside0.mk A100
            clear A100
            simp only [Option.some.injEq, Prod.mk.injEq] at H
            obtain ⟨rfl, rfl⟩ := H
            go_enter Tryd.func24, Tryd.ntmps24
            go_wp2_with (first | (go_at_call 36; (with_reducible refine (base_Check.calls a0 a1 none _ A5.out (Sent.sub (show ∀ c, c ∈ base_Check.L → c ∈ half_Of.L by decide) (Sent.below HS.out (by repeat (first | (with_reducible first | exact HB.out | apply below_alloc | apply pw_below_drewN | apply below_drew1) | exact HB.out))))).mono ?_); rintro e w' ⟨rfl, ⟨nd, rfl⟩⟩; (try simp only [errW_none, errW_some]); (try first | exact ⟨rfl, _, World.drewN_drewN _ _ _⟩ | exact ⟨rfl, _, Eq.trans (World.drewN_drewN _ _ _) (congrArg (World.drewN _) (Nat.add_assoc _ _ _))⟩)) | (go_at_call 42; (with_reducible refine (half_place_number.calls a2 a3 t194 _ A10.out).mono ?_); rintro e w11 ⟨rfl, hb⟩; have n0_ := Aside0.mk (below_step (by repeat (first | (with_reducible first | exact HB.out | apply below_alloc | apply pw_below_drewN | apply below_drew1) | exact HB.out)) hb); clear HB; have HB := n0_; clear n0_; (try clear hb); (try clear hb2); (try clear hk); (try clear hi)))
            repeat (go_quiet (first | (go_at_call 36; (with_reducible refine (base_Check.calls a0 a1 none _ A5.out (Sent.sub (show ∀ c, c ∈ base_Check.L → c ∈ half_Of.L by decide) (Sent.below HS.out (by repeat (first | (with_reducible first | exact HB.out | apply below_alloc | apply pw_below_drewN | apply below_drew1) | exact HB.out))))).mono ?_); rintro e w' ⟨rfl, ⟨nd, rfl⟩⟩; (try simp only [errW_none, errW_some]); (try first | exact ⟨rfl, _, World.drewN_drewN _ _ _⟩ | exact ⟨rfl, _, Eq.trans (World.drewN_drewN _ _ _) (congrArg (World.drewN _) (Nat.add_assoc _ _ _))⟩)) | (go_at_call 42; (with_reducible refine (half_place_number.calls a2 a3 t194 _ A10.out).mono ?_); rintro e w11 ⟨rfl, hb⟩; have n0_ := Aside0.mk (below_step (by repeat (first | (with_reducible first | exact HB.out | apply below_alloc | apply pw_below_drewN | apply below_drew1) | exact HB.out)) hb); clear HB; have HB := n0_; clear n0_; (try clear hb); (try clear hb2); (try clear hk); (try clear hi))); try go_wp2_with (first | (go_at_call 36; (with_reducible refine (base_Check.calls a0 a1 none _ A5.out (Sent.sub (show ∀ c, c ∈ base_Check.L → c ∈ half_Of.L by decide) (Sent.below HS.out (by repeat (first | (with_reducible first | exact HB.out | apply below_alloc | apply pw_below_drewN | apply below_drew1) | exact HB.out))))).mono ?_); rintro e w' ⟨rfl, ⟨nd, rfl⟩⟩; (try simp only [errW_none, errW_some]); (try first | exact ⟨rfl, _, World.drewN_drewN _ _ _⟩ | exact ⟨rfl, _, Eq.trans (World.drewN_drewN _ _ _) (congrArg (World.drewN _) (Nat.add_assoc _ _ _))⟩)) | (go_at_call 42; (with_reducible refine (half_place_number.calls a2 a3 t194 _ A10.out).mono ?_); rintro e w11 ⟨rfl, hb⟩; have n0_ := Aside0.mk (below_step (by repeat (first | (with_reducible first | exact HB.out | apply below_alloc | apply pw_below_drewN | apply below_drew1) | exact HB.out)) hb); clear HB; have HB := n0_; clear n0_; (try clear hb); (try clear hb2); (try clear hk); (try clear hi))))
            go_ret2
            exact ⟨by first | rfl | (simp [errW_none, errW_some] <;> rfl) | (simp [*, errW_none, errW_some] <;> rfl), by repeat (first | (with_reducible first | exact HB.out | apply below_alloc | apply pw_below_drewN | apply below_drew1) | exact HB.out)⟩
  · have H1 : (some (0, some q193)) = some (r1, r2) := by rw [if_neg (show ¬ (some q193).isNone = true by simp)] at H; exact H
    clear H
    have H := H1
    clear H1
    try simp only [errW_none, errW_some]
    simp only [Option.some.injEq, Prod.mk.injEq] at H
    obtain ⟨rfl, rfl⟩ := H
    go_enter Tryd.func24, Tryd.ntmps24
    go_wp2_with (first | (go_at_call 36; (with_reducible refine (base_Check.calls a0 a1 (some q193) _ A5.out (Sent.sub (show ∀ c, c ∈ base_Check.L → c ∈ half_Of.L by decide) (Sent.below HS.out (by repeat (first | (with_reducible first | exact HB.out | apply below_alloc | apply pw_below_drewN | apply below_drew1) | exact HB.out))))).mono ?_); rintro e w' ⟨rfl, ⟨nd, rfl⟩⟩; (try simp only [errW_none, errW_some]); (try first | exact ⟨rfl, _, World.drewN_drewN _ _ _⟩ | exact ⟨rfl, _, Eq.trans (World.drewN_drewN _ _ _) (congrArg (World.drewN _) (Nat.add_assoc _ _ _))⟩)))
    repeat (go_quiet (first | (go_at_call 36; (with_reducible refine (base_Check.calls a0 a1 (some q193) _ A5.out (Sent.sub (show ∀ c, c ∈ base_Check.L → c ∈ half_Of.L by decide) (Sent.below HS.out (by repeat (first | (with_reducible first | exact HB.out | apply below_alloc | apply pw_below_drewN | apply below_drew1) | exact HB.out))))).mono ?_); rintro e w' ⟨rfl, ⟨nd, rfl⟩⟩; (try simp only [errW_none, errW_some]); (try first | exact ⟨rfl, _, World.drewN_drewN _ _ _⟩ | exact ⟨rfl, _, Eq.trans (World.drewN_drewN _ _ _) (congrArg (World.drewN _) (Nat.add_assoc _ _ _))⟩))); try go_wp2_with (first | (go_at_call 36; (with_reducible refine (base_Check.calls a0 a1 (some q193) _ A5.out (Sent.sub (show ∀ c, c ∈ base_Check.L → c ∈ half_Of.L by decide) (Sent.below HS.out (by repeat (first | (with_reducible first | exact HB.out | apply below_alloc | apply pw_below_drewN | apply below_drew1) | exact HB.out))))).mono ?_); rintro e w' ⟨rfl, ⟨nd, rfl⟩⟩; (try simp only [errW_none, errW_some]); (try first | exact ⟨rfl, _, World.drewN_drewN _ _ _⟩ | exact ⟨rfl, _, Eq.trans (World.drewN_drewN _ _ _) (congrArg (World.drewN _) (Nat.add_assoc _ _ _))⟩))))
    go_ret2
    exact ⟨by first | rfl | (simp [errW_none, errW_some] <;> rfl) | (simp [*, errW_none, errW_some] <;> rfl), by repeat (first | (with_reducible first | exact HB.out | apply below_alloc | apply pw_below_drewN | apply below_drew1) | exact HB.out)⟩

end Go.Proofs.YtnnondbimdmcaaaDoor.F

namespace Go.Proofs.YtnnondbimdmcaaaDoor.F
open Go.RowKit Go.Proofs.YtnnondbimdmcaaaDoorW.PrintWords Go.Proofs.YtnnondbimdmcaaaDoorW.PrintLast Go.Proofs.YtnnondbimdmcaaaDoorW.PrintMore
attribute [local go_sem] max2_int min2_int max_two min_two max_three min_three max_four min_four   -- for this text's walks alone
set_option linter.unusedVariables false
set_option linter.unusedSimpArgs false
set_option linter.unusedSectionVars false
open Go.Proofs.YtnnondbimdmcaaaDoor
variable [Errs]

/-! ### half_Split: function 25 -/
def half_Split.L : List Int := [1, 4]
def half_Split.f (a0 : Int) (a1 : Int) (a2 : Int) : Option (Int × Int × Option Int) := (half_check.f a0 a1 a2).bind fun t195 => (if t195.isNone = true then ((half_at.f a2).bind fun bt197 => (some (bt197.1, bt197.2, none))) else (some (0, 0, some (t195.getD 0))))
set_option maxHeartbeats 8000000 in
set_option maxRecDepth 100000 in
theorem half_Split.calls (a0 : Int) (a1 : Int) (a2 : Int) (r1 : Int) (r2 : Int) (r3 : Option Int) (w : World) (h : half_Split.f a0 a1 a2 = some (r1, r2, r3)) (hS : Sent half_Split.L w) :
    Calls Tryd.prog 25 #[.int .i64 a0, .int .i64 a1, .int .i64 a2] w fun e w' => e = .returned (.tuple #[.int .i64 r1, .int .i64 r2, errW r3]) ∧ Below w.heap.size w w' := by
  have hu68 := Tryd.underlying68
  have hu27 := Tryd.underlying27
  have HB := Aside0.mk (Below.refl w.heap.size w)
  have HS := Aside0.mk hS
  clear hS
  have H : ((half_check.f a0 a1 a2).bind fun t195 => (if t195.isNone = true then ((half_at.f a2).bind fun bt197 => (some (bt197.1, bt197.2, none))) else (some (0, 0, some (t195.getD 0))))) = some (r1, r2, r3) := h
  clear h
  replace H := Option.bind_eq_some_iff.mp H
  obtain ⟨t195, A40, H⟩ := H
  replace H : (if t195.isNone = true then ((half_at.f a2).bind fun bt197 => (some (bt197.1, bt197.2, none))) else (some (0, 0, some (t195.getD 0)))) = some (r1, r2, r3) := H
  have A4 := Aside0.mk A40
  clear A40
  rcases t195 with _ | q196
  · have H1 : ((half_at.f a2).bind fun bt197 => (some (bt197.1, bt197.2, none))) = some (r1, r2, r3) := by rw [if_pos (show (none : Option Int).isNone = true by rfl)] at H; exact H
    clear H
    have H := H1
    clear H1
    try simp only [errW_none, errW_some]
    replace H := Option.bind_eq_some_iff.mp H
    obtain ⟨⟨t197, t198⟩, A50, H⟩ := H
    replace H : (some (t197, t198, none)) = some (r1, r2, r3) := H
    have A5 := Aside0.mk A50
    clear A50
    simp only [Option.some.injEq, Prod.mk.injEq] at H
    obtain ⟨rfl, rfl, rfl⟩ := H
    go_enter Tryd.func25, Tryd.ntmps25
    go_wp2_with (first | (go_at_call 33; (with_reducible refine (half_check.calls a0 a1 a2 none _ A4.out (Sent.sub (show ∀ c, c ∈ half_check.L → c ∈ half_Split.L by decide) (Sent.below HS.out (by repeat (first | (with_reducible first | exact HB.out | apply below_alloc | apply pw_below_drewN | apply below_drew1) | exact HB.out))))).mono ?_); rintro e w' ⟨rfl, ⟨nd, rfl⟩⟩; (try simp only [errW_none, errW_some]); (try first | exact ⟨rfl, _, World.drewN_drewN _ _ _⟩ | exact ⟨rfl, _, Eq.trans (World.drewN_drewN _ _ _) (congrArg (World.drewN _) (Nat.add_assoc _ _ _))⟩)) | (go_at_call 34; (with_reducible refine (half_at.calls a2 t197 t198 _ A5.out).mono ?_); rintro e w6 ⟨rfl, hb⟩; have n0_ := Aside0.mk (below_step (by repeat (first | (with_reducible first | exact HB.out | apply below_alloc | apply pw_below_drewN | apply below_drew1) | exact HB.out)) hb); clear HB; have HB := n0_; clear n0_; (try clear hb); (try clear hb2); (try clear hk); (try clear hi)) | ((with_reducible refine gate_dst (N := 10) rfl ?_); refine box_event ?hg (N := 10) ?hd (cs := #[.int .i64 0, .int .i64 0]) (t := 68) ?hr ?_; (case hd => rfl); (case hg => rfl); (case hr => first | (go_simp; done) | (go_simp; rfl)); intro gb199 hg w7 hbox hb; have n0_ := Aside0.mk (below_step (by repeat (first | (with_reducible first | exact HB.out | apply below_alloc | apply pw_below_drewN | apply below_drew1) | exact HB.out)) hb); have n1_ := Aside0.mk (hbox); have n2_ := Aside0.mk ((by rw [hg]; exact (below_size (by repeat (first | (with_reducible first | exact HB.out | apply below_alloc | apply pw_below_drewN | apply below_drew1) | exact HB.out))) : w.heap.size ≤ gb199)); have n3_ := Aside0.mk ((by rw [hg]; exact (below_size (by repeat (first | (with_reducible first | exact HB.out | apply below_alloc | apply pw_below_drewN | apply below_drew1) | exact HB.out))) : w.heap.size ≤ gb199)); clear HB; have HB := n0_; have BK199 := n1_; have GW199 := n2_; have GE199 := n3_; clear n0_ n1_ n2_ n3_; clear hb hbox hg; have hcz8_0 : w7.cell? ⟨gb199, 0, none⟩ = some (.int .i64 0) := (blk_cell BK199.out 0).trans rfl; have hcz8_1 : w7.cell? ⟨gb199, 1, none⟩ = some (.int .i64 0) := (blk_cell BK199.out 1).trans rfl; have hfz8_0 := blk_frozen BK199.out 0; have hfz8_1 := blk_frozen BK199.out 1))
    repeat (go_quiet (first | (go_at_call 33; (with_reducible refine (half_check.calls a0 a1 a2 none _ A4.out (Sent.sub (show ∀ c, c ∈ half_check.L → c ∈ half_Split.L by decide) (Sent.below HS.out (by repeat (first | (with_reducible first | exact HB.out | apply below_alloc | apply pw_below_drewN | apply below_drew1) | exact HB.out))))).mono ?_); rintro e w' ⟨rfl, ⟨nd, rfl⟩⟩; (try simp only [errW_none, errW_some]); (try first | exact ⟨rfl, _, World.drewN_drewN _ _ _⟩ | exact ⟨rfl, _, Eq.trans (World.drewN_drewN _ _ _) (congrArg (World.drewN _) (Nat.add_assoc _ _ _))⟩)) | (go_at_call 34; (with_reducible refine (half_at.calls a2 t197 t198 _ A5.out).mono ?_); rintro e w6 ⟨rfl, hb⟩; have n0_ := Aside0.mk (below_step (by repeat (first | (with_reducible first | exact HB.out | apply below_alloc | apply pw_below_drewN | apply below_drew1) | exact HB.out)) hb); clear HB; have HB := n0_; clear n0_; (try clear hb); (try clear hb2); (try clear hk); (try clear hi)) | ((with_reducible refine gate_dst (N := 10) rfl ?_); refine box_event ?hg (N := 10) ?hd (cs := #[.int .i64 0, .int .i64 0]) (t := 68) ?hr ?_; (case hd => rfl); (case hg => rfl); (case hr => first | (go_simp; done) | (go_simp; rfl)); intro gb199 hg w7 hbox hb; have n0_ := Aside0.mk (below_step (by repeat (first | (with_reducible first | exact HB.out | apply below_alloc | apply pw_below_drewN | apply below_drew1) | exact HB.out)) hb); have n1_ := Aside0.mk (hbox); have n2_ := Aside0.mk ((by rw [hg]; exact (below_size (by repeat (first | (with_reducible first | exact HB.out | apply below_alloc | apply pw_below_drewN | apply below_drew1) | exact HB.out))) : w.heap.size ≤ gb199)); have n3_ := Aside0.mk ((by rw [hg]; exact (below_size (by repeat (first | (with_reducible first | exact HB.out | apply below_alloc | apply pw_below_drewN | apply below_drew1) | exact HB.out))) : w.heap.size ≤ gb199)); clear HB; have HB := n0_; have BK199 := n1_; have GW199 := n2_; have GE199 := n3_; clear n0_ n1_ n2_ n3_; clear hb hbox hg; have hcz8_0 : w7.cell? ⟨gb199, 0, none⟩ = some (.int .i64 0) := (blk_cell BK199.out 0).trans rfl; have hcz8_1 : w7.cell? ⟨gb199, 1, none⟩ = some (.int .i64 0) := (blk_cell BK199.out 1).trans rfl; have hfz8_0 := blk_frozen BK199.out 0; have hfz8_1 := blk_frozen BK199.out 1)); try go_wp2_with (first | (go_at_call 33; (with_reducible refine (half_check.calls a0 a1 a2 none _ A4.out (Sent.sub (show ∀ c, c ∈ half_check.L → c ∈ half_Split.L by decide) (Sent.below HS.out (by repeat (first | (with_reducible first | exact HB.out | apply below_alloc | apply pw_below_drewN | apply below_drew1) | exact HB.out))))).mono ?_); rintro e w' ⟨rfl, ⟨nd, rfl⟩⟩; (try simp only [errW_none, errW_some]); (try first | exact ⟨rfl, _, World.drewN_drewN _ _ _⟩ | exact ⟨rfl, _, Eq.trans (World.drewN_drewN _ _ _) (congrArg (World.drewN _) (Nat.add_assoc _ _ _))⟩)) | (go_at_call 34; (with_reducible refine (half_at.calls a2 t197 t198 _ A5.out).mono ?_); rintro e w6 ⟨rfl, hb⟩; have n0_ := Aside0.mk (below_step (by repeat (first | (with_reducible first | exact HB.out | apply below_alloc | apply pw_below_drewN | apply below_drew1) | exact HB.out)) hb); clear HB; have HB := n0_; clear n0_; (try clear hb); (try clear hb2); (try clear hk); (try clear hi)) | ((with_reducible refine gate_dst (N := 10) rfl ?_); refine box_event ?hg (N := 10) ?hd (cs := #[.int .i64 0, .int .i64 0]) (t := 68) ?hr ?_; (case hd => rfl); (case hg => rfl); (case hr => first | (go_simp; done) | (go_simp; rfl)); intro gb199 hg w7 hbox hb; have n0_ := Aside0.mk (below_step (by repeat (first | (with_reducible first | exact HB.out | apply below_alloc | apply pw_below_drewN | apply below_drew1) | exact HB.out)) hb); have n1_ := Aside0.mk (hbox); have n2_ := Aside0.mk ((by rw [hg]; exact (below_size (by repeat (first | (with_reducible first | exact HB.out | apply below_alloc | apply pw_below_drewN | apply below_drew1) | exact HB.out))) : w.heap.size ≤ gb199)); have n3_ := Aside0.mk ((by rw [hg]; exact (below_size (by repeat (first | (with_reducible first | exact HB.out | apply below_alloc | apply pw_below_drewN | apply below_drew1) | exact HB.out))) : w.heap.size ≤ gb199)); clear HB; have HB := n0_; have BK199 := n1_; have GW199 := n2_; have GE199 := n3_; clear n0_ n1_ n2_ n3_; clear hb hbox hg; have hcz8_0 : w7.cell? ⟨gb199, 0, none⟩ = some (.int .i64 0) := (blk_cell BK199.out 0).trans rfl; have hcz8_1 : w7.cell? ⟨gb199, 1, none⟩ = some (.int .i64 0) := (blk_cell BK199.out 1).trans rfl; have hfz8_0 := blk_frozen BK199.out 0; have hfz8_1 := blk_frozen BK199.out 1)))
    go_ret3
    exact ⟨by first | rfl | (simp [errW_none, errW_some] <;> rfl) | (simp [*, errW_none, errW_some] <;> rfl), by repeat (first | (with_reducible first | exact HB.out | apply below_alloc | apply pw_below_drewN | apply below_drew1 | refine below_set ?_ GE199.out) | exact HB.out)⟩
  · have H1 : (some (0, 0, some q196)) = some (r1, r2, r3) := by rw [if_neg (show ¬ (some q196).isNone = true by simp)] at H; exact H
    clear H
    have H := H1
    clear H1
    try simp only [errW_none, errW_some]
    simp only [Option.some.injEq, Prod.mk.injEq] at H
    obtain ⟨rfl, rfl, rfl⟩ := H
    go_enter Tryd.func25, Tryd.ntmps25
    go_wp2_with (first | (go_at_call 33; (with_reducible refine (half_check.calls a0 a1 a2 (some q196) _ A4.out (Sent.sub (show ∀ c, c ∈ half_check.L → c ∈ half_Split.L by decide) (Sent.below HS.out (by repeat (first | (with_reducible first | exact HB.out | apply below_alloc | apply pw_below_drewN | apply below_drew1) | exact HB.out))))).mono ?_); rintro e w' ⟨rfl, ⟨nd, rfl⟩⟩; (try simp only [errW_none, errW_some]); (try first | exact ⟨rfl, _, World.drewN_drewN _ _ _⟩ | exact ⟨rfl, _, Eq.trans (World.drewN_drewN _ _ _) (congrArg (World.drewN _) (Nat.add_assoc _ _ _))⟩)))
    repeat (go_quiet (first | (go_at_call 33; (with_reducible refine (half_check.calls a0 a1 a2 (some q196) _ A4.out (Sent.sub (show ∀ c, c ∈ half_check.L → c ∈ half_Split.L by decide) (Sent.below HS.out (by repeat (first | (with_reducible first | exact HB.out | apply below_alloc | apply pw_below_drewN | apply below_drew1) | exact HB.out))))).mono ?_); rintro e w' ⟨rfl, ⟨nd, rfl⟩⟩; (try simp only [errW_none, errW_some]); (try first | exact ⟨rfl, _, World.drewN_drewN _ _ _⟩ | exact ⟨rfl, _, Eq.trans (World.drewN_drewN _ _ _) (congrArg (World.drewN _) (Nat.add_assoc _ _ _))⟩))); try go_wp2_with (first | (go_at_call 33; (with_reducible refine (half_check.calls a0 a1 a2 (some q196) _ A4.out (Sent.sub (show ∀ c, c ∈ half_check.L → c ∈ half_Split.L by decide) (Sent.below HS.out (by repeat (first | (with_reducible first | exact HB.out | apply below_alloc | apply pw_below_drewN | apply below_drew1) | exact HB.out))))).mono ?_); rintro e w' ⟨rfl, ⟨nd, rfl⟩⟩; (try simp only [errW_none, errW_some]); (try first | exact ⟨rfl, _, World.drewN_drewN _ _ _⟩ | exact ⟨rfl, _, Eq.trans (World.drewN_drewN _ _ _) (congrArg (World.drewN _) (Nat.add_assoc _ _ _))⟩))))
    go_ret3
    exact ⟨by first | rfl | (simp [errW_none, errW_some] <;> rfl) | (simp [*, errW_none, errW_some] <;> rfl), by repeat (first | (with_reducible first | exact HB.out | apply below_alloc | apply pw_below_drewN | apply below_drew1) | exact HB.out)⟩

end Go.Proofs.YtnnondbimdmcaaaDoor.F

namespace Go.Proofs.YtnnondbimdmcaaaDoor.F
open Go.RowKit Go.Proofs.YtnnondbimdmcaaaDoorW.PrintWords Go.Proofs.YtnnondbimdmcaaaDoorW.PrintLast Go.Proofs.YtnnondbimdmcaaaDoorW.PrintMore
attribute [local go_sem] max2_int min2_int max_two min_two max_three min_three max_four min_four   -- for this text's walks alone
set_option linter.unusedVariables false
set_option linter.unusedSimpArgs false
set_option linter.unusedSectionVars false
open Go.Proofs.YtnnondbimdmcaaaDoor
variable [Errs]

/-! ### tesseraref04_Group: function 12 -/
def tesseraref04_Group.l0 : Nat → Int → Int → Int → Option (Int)
  | 0, _, _, _ => none
  | k + 1, x0, x1, x5 => if (wrap64 (x5 * (wrap64 (x1 - 1)))) < x0 then (tesseraref04_Group.l0 k x0 x1 (wrap64 (x5 + 1))) else (some x5)
def tesseraref04_Group.f (k : Nat) (a0 : Int) (a1 : Int) : Option (Int) := tesseraref04_Group.l0 k a0 a1 1
theorem tesseraref04_Group.mono_l : ∀ k, (∀ y0 y1 y2, LeO (tesseraref04_Group.l0 k y0 y1 y2) (tesseraref04_Group.l0 (k + 1) y0 y1 y2))
  | 0 => fun _ _ _ r h => by simp [tesseraref04_Group.l0] at h
  | k + 1 => by
    have ih0 := tesseraref04_Group.mono_l k
    · intro y0 y1 y2
      unfold tesseraref04_Group.l0
      repeat' first
      | (with_reducible exact ih0 _ _ _)
      | (with_reducible exact LeO.refl _)
      | (with_reducible exact LeO.none _)
      | (with_reducible refine LeO.ite ?_ ?_)
      | (with_reducible refine LeO.bind ?_ (fun _ => ?_))
      | exact ih0 _ _ _
      | exact LeO.none _
      | refine LeO.ite ?_ ?_
      | refine LeO.bind ?_ (fun _ => ?_)
theorem tesseraref04_Group.mono : ∀ a0 a1 k, LeO (tesseraref04_Group.f k a0 a1) (tesseraref04_Group.f (k + 1) a0 a1) := by
  intro a0 a1 k
  have ih0 := tesseraref04_Group.mono_l k
  unfold tesseraref04_Group.f
  repeat' first
      | (with_reducible exact ih0 _ _ _)
      | (with_reducible exact LeO.refl _)
      | (with_reducible exact LeO.none _)
      | (with_reducible refine LeO.ite ?_ ?_)
      | (with_reducible refine LeO.bind ?_ (fun _ => ?_))
      | exact ih0 _ _ _
      | exact LeO.none _
      | refine LeO.ite ?_ ?_
      | refine LeO.bind ?_ (fun _ => ?_)
set_option maxHeartbeats 8000000 in
set_option maxRecDepth 100000 in
theorem tesseraref04_Group.calls (k : Nat) (a0 : Int) (a1 : Int) (r : Int) (w : World) (h : tesseraref04_Group.f k a0 a1 = some r) :
    Calls Tryd.prog 12 #[.int .i64 a0, .int .i64 a1] w fun e w' => e = .returned (.int .i64 r) ∧ Drawn0 w w' := by
  have H : (tesseraref04_Group.l0 k a0 a1 1) = some r := h
  clear h
  have H' := Aside0.mk H
  clear H
  go_enter Tryd.func12, Tryd.ntmps12
  go_wp2
  go_loopg [5] k (fun kq v5 w' => ∃ (x5_1 : Int), v5 = .int .i64 x5_1 ∧ Aside0 (tesseraref04_Group.l0 kq a0 a1 x5_1 = some r) ∧ Aside0 (kq ≤ k) ∧ Drawn0 w w')
  case atStart => exact ⟨(1), (by first | rfl | (simp; done) | (simp [*]; done)), H', ⟨Nat.le_refl _⟩, by repeat (first | exact Drawn0.refl _ | apply Drawn0.step)⟩
  case round =>
    clear H'
    try clear c1
    try clear p2
    obtain ⟨x5_1, rfl, HA, HK1, ⟨m1, rfl⟩⟩ := hrel
    cases gk with
    | zero => exact absurd HA.out (by simp [tesseraref04_Group.l0])
    | succ k1 =>
      have H := HA.out
      clear HA
      first | rw [tesseraref04_Group.l0] at H | simp only [tesseraref04_Group.l0] at H
      by_cases c3 : (wrap64 (x5_1 * (wrap64 (a1 - 1)))) < a0
      · rw [if_pos c3] at H
        have c3b0 : decide ((wrap64 (x5_1 * (wrap64 (a1 - 1)))) < a0) = true := decide_eq_true c3
        clear c3
        have H' := Aside0.mk H
        clear H
        go_wp2
        go_roundg k1
        case measure => have := HK1.out; omega
        case rel => exact ⟨(wrap64 (x5_1 + 1)), (by first | rfl | (simp; done) | (simp [*]; done)), H', ⟨by have := HK1.out; omega⟩, by repeat (first | exact Drawn0.refl _ | apply Drawn0.step)⟩
      · rw [if_neg c3] at H
        have c3b0 : decide ((wrap64 (x5_1 * (wrap64 (a1 - 1)))) < a0) = false := decide_eq_false c3
        clear c3
        obtain rfl := Option.some.inj H
        go_wp2
        go_ret
        exact ⟨by first | rfl | (simp; done) | (simp [*]; done), by repeat (first | exact Drawn0.refl _ | apply Drawn0.step)⟩

end Go.Proofs.YtnnondbimdmcaaaDoor.F

namespace Go.Proofs.YtnnondbimdmcaaaDoor.F
open Go.RowKit Go.Proofs.YtnnondbimdmcaaaDoorW.PrintWords Go.Proofs.YtnnondbimdmcaaaDoorW.PrintLast Go.Proofs.YtnnondbimdmcaaaDoorW.PrintMore
attribute [local go_sem] max2_int min2_int max_two min_two max_three min_three max_four min_four   -- for this text's walks alone
set_option linter.unusedVariables false
set_option linter.unusedSimpArgs false
set_option linter.unusedSectionVars false
open Go.Proofs.YtnnondbimdmcaaaDoor
variable [Errs]

/-! ### tesseraref05_Carrier: function 26 -/
def tesseraref05_Carrier.f (k : Nat) (a0 : Int) (a1 : Int) (a2 : Int) : Option (Int) := (tesseraref04_Group.f k a0 a1).bind fun t200 => (if t200 = 0 then (none) else (some (wrap64 ((wrap64 (Int.tdiv a2 t200)) + 1))))
theorem tesseraref05_Carrier.mono : ∀ a0 a1 a2 k, LeO (tesseraref05_Carrier.f k a0 a1 a2) (tesseraref05_Carrier.f (k + 1) a0 a1 a2) := by
  intro a0 a1 a2 k
  unfold tesseraref05_Carrier.f
  repeat' first
      | (with_reducible exact tesseraref04_Group.mono _ _ _)
      | (with_reducible exact LeO.refl _)
      | (with_reducible exact LeO.none _)
      | (with_reducible refine LeO.ite ?_ ?_)
      | (with_reducible refine LeO.bind ?_ (fun _ => ?_))
      | exact tesseraref04_Group.mono _ _ _
      | exact LeO.none _
      | refine LeO.ite ?_ ?_
      | refine LeO.bind ?_ (fun _ => ?_)
set_option maxHeartbeats 8000000 in
set_option maxRecDepth 100000 in
theorem tesseraref05_Carrier.calls (k : Nat) (a0 : Int) (a1 : Int) (a2 : Int) (r : Int) (w : World) (h : tesseraref05_Carrier.f k a0 a1 a2 = some r) :
    Calls Tryd.prog 26 #[.int .i64 a0, .int .i64 a1, .int .i64 a2] w fun e w' => e = .returned (.int .i64 r) ∧ Drawn0 w w' := by
  have H : ((tesseraref04_Group.f k a0 a1).bind fun t200 => (if t200 = 0 then (none) else (some (wrap64 ((wrap64 (Int.tdiv a2 t200)) + 1))))) = some r := h
  clear h
  replace H := Option.bind_eq_some_iff.mp H
  obtain ⟨t200, A40, H⟩ := H
  replace H : (if t200 = 0 then (none) else (some (wrap64 ((wrap64 (Int.tdiv a2 t200)) + 1)))) = some r := H
  have A4 := Aside0.mk A40
  clear A40
  by_cases c5 : t200 = 0
  · rw [if_pos c5] at H
    exact absurd H (by simp)
  · rw [if_neg c5] at H
    have c5b0 : (t200 == 0) = false := beq_eq_false_iff_ne.mpr c5
    have c5b1 : (t200 != 0) = true := bne_iff_ne.mpr c5
    obtain rfl := Option.some.inj H
    go_enter Tryd.func26, Tryd.ntmps26
    go_wp2_with (first | ((with_reducible refine gate_callee (f := 12) rfl ?_); refine goesL_ (some 10) rfl rfl Tryd.func12 (by kernel_rfl) rfl #[.int .i64 a0, .int .i64 a1] rfl (by (try simp only [List.map_toArray, List.map_cons, List.map_nil]); first | done | rfl | (simp only [List.length_drop, List.length_take]; rfl)) ?_; (with_reducible refine (tesseraref04_Group.calls k a0 a1 t200 _ A4.out).mono ?_); rintro e w' ⟨rfl, ⟨nd, rfl⟩⟩; refine ⟨_, rfl, ?_⟩))
    go_ret
    exact ⟨by first | rfl | (simp; done) | (simp [*]; done), by repeat (first | exact Drawn0.refl _ | apply Drawn0.step)⟩

end Go.Proofs.YtnnondbimdmcaaaDoor.F

namespace Go.Proofs.YtnnondbimdmcaaaDoor.F
open Go.RowKit Go.Proofs.YtnnondbimdmcaaaDoorW.PrintWords Go.Proofs.YtnnondbimdmcaaaDoorW.PrintLast Go.Proofs.YtnnondbimdmcaaaDoorW.PrintMore
attribute [local go_sem] max2_int min2_int max_two min_two max_three min_three max_four min_four   -- for this text's walks alone
set_option linter.unusedVariables false
set_option linter.unusedSimpArgs false
set_option linter.unusedSectionVars false
open Go.Proofs.YtnnondbimdmcaaaDoor
variable [Errs]

/-! ### tesseranum_SameInts: function 27 -/
def tesseranum_SameInts.l0 : Nat → List Int → List Int → Int → Int → Option (Bool)
  | 0, _, _, _, _ => none
  | k + 1, x0, x1, x12, x13 => if x13 < x12 then (if 0 ≤ x13 then (if x13 < (x0.length : Int) then (if x13 < (x1.length : Int) then (if (rd x0 x13) = (rd x1 x13) then (tesseranum_SameInts.l0 k x0 x1 x12 (wrap64 (x13 + 1))) else (some false)) else (none)) else (none)) else (none)) else (some true)
def tesseranum_SameInts.f (k : Nat) (l0 : List Int) (l1 : List Int) : Option (Bool) := if (l0.length : Int) = (l1.length : Int) then (tesseranum_SameInts.l0 k l0 l1 (l0.length : Int) 0) else (some false)
theorem tesseranum_SameInts.mono_l : ∀ k, (∀ y0 y1 y2 y3, LeO (tesseranum_SameInts.l0 k y0 y1 y2 y3) (tesseranum_SameInts.l0 (k + 1) y0 y1 y2 y3))
  | 0 => fun _ _ _ _ r h => by simp [tesseranum_SameInts.l0] at h
  | k + 1 => by
    have ih0 := tesseranum_SameInts.mono_l k
    · intro y0 y1 y2 y3
      unfold tesseranum_SameInts.l0
      repeat' first
      | (with_reducible exact ih0 _ _ _ _)
      | (with_reducible exact LeO.refl _)
      | (with_reducible exact LeO.none _)
      | (with_reducible refine LeO.ite ?_ ?_)
      | (with_reducible refine LeO.bind ?_ (fun _ => ?_))
      | exact ih0 _ _ _ _
      | exact LeO.none _
      | refine LeO.ite ?_ ?_
      | refine LeO.bind ?_ (fun _ => ?_)
theorem tesseranum_SameInts.mono : ∀ a0 a1 k, LeO (tesseranum_SameInts.f k a0 a1) (tesseranum_SameInts.f (k + 1) a0 a1) := by
  intro a0 a1 k
  have ih0 := tesseranum_SameInts.mono_l k
  unfold tesseranum_SameInts.f
  repeat' first
      | (with_reducible exact ih0 _ _ _ _)
      | (with_reducible exact LeO.refl _)
      | (with_reducible exact LeO.none _)
      | (with_reducible refine LeO.ite ?_ ?_)
      | (with_reducible refine LeO.bind ?_ (fun _ => ?_))
      | exact ih0 _ _ _ _
      | exact LeO.none _
      | refine LeO.ite ?_ ?_
      | refine LeO.bind ?_ (fun _ => ?_)
set_option maxHeartbeats 8000000 in
set_option maxRecDepth 100000 in
theorem tesseranum_SameInts.calls (k : Nat) (A0 : Option Addr) (c0 : Nat) (l0 : List Int) (A1 : Option Addr) (c1 : Nat) (l1 : List Int) (r : Bool) (w : World) (hr0 : Kd.C (Kd.int .i64) w A0 l0.length l0) (hc0 : l0.length ≤ c0) (hr1 : Kd.C (Kd.int .i64) w A1 l1.length l1) (hc1 : l1.length ≤ c1) (h : tesseranum_SameInts.f k l0 l1 = some r) :
    Calls Tryd.prog 27 #[.slice A0 l0.length c0, .slice A1 l1.length c1] w fun e w' => e = .returned (.bool r) ∧ Drawn0 w w' := by
  have HR0 := Aside0.mk hr0
  have HC0 := Aside0.mk hc0
  clear hr0 hc0
  have HR1 := Aside0.mk hr1
  have HC1 := Aside0.mk hc1
  clear hr1 hc1
  have H : (if (l0.length : Int) = (l1.length : Int) then (tesseranum_SameInts.l0 k l0 l1 (l0.length : Int) 0) else (some false)) = some r := h
  clear h
  by_cases c3 : (l0.length : Int) = (l1.length : Int)
  · rw [if_pos c3] at H
    have c3b0 : ((l0.length : Int) == (l1.length : Int)) = true := beq_iff_eq.mpr c3
    have c3b1 : ((l0.length : Int) != (l1.length : Int)) = false := bne_eq_false_iff_eq.mpr c3
    have c3b2 : (l0.length == l1.length) = true := by first | simpa using c3 | (simp at c3 ⊢; omega)
    clear c3
    have H' := Aside0.mk H
    clear H
    go_enter Tryd.func27, Tryd.ntmps27
    go_wp2
    repeat (go_quiet (fail); try go_wp2)
    go_loopg [13] k (fun kq v13 w' => ∃ (x13_1 : Int), v13 = .int .i64 x13_1 ∧ Aside0 (tesseranum_SameInts.l0 kq l0 l1 (l0.length : Int) x13_1 = some r) ∧ Aside0 (kq ≤ k) ∧ Drawn0 w w')
    case atStart => exact ⟨(0), (by first | rfl | (simp; done) | (simp [*]; done)), H', ⟨Nat.le_refl _⟩, by repeat (first | exact Drawn0.refl _ | apply Drawn0.step)⟩
    case round =>
      clear H'
      try clear c1
      try clear c2
      try clear p2
      try clear c3
      try clear c3b0
      try clear c3b1
      try clear c3b2
      obtain ⟨x13_1, rfl, HA, HK1, ⟨m1, rfl⟩⟩ := hrel
      cases gk with
      | zero => exact absurd HA.out (by simp [tesseranum_SameInts.l0])
      | succ k1 =>
        have H := HA.out
        clear HA
        first | rw [tesseranum_SameInts.l0] at H | simp only [tesseranum_SameInts.l0] at H
        by_cases c4 : x13_1 < (l0.length : Int)
        · rw [if_pos c4] at H
          have c4b0 : decide (x13_1 < (l0.length : Int)) = true := decide_eq_true c4
          clear c4
          by_cases c5 : 0 ≤ x13_1
          · rw [if_pos c5] at H
            have c5b0 : decide (0 ≤ x13_1) = true := decide_eq_true c5
            clear c5
            by_cases c6 : x13_1 < (l0.length : Int)
            · rw [if_pos c6] at H
              have c6b0 : decide (x13_1 < (l0.length : Int)) = true := decide_eq_true c6
              clear c6
              by_cases c7 : x13_1 < (l1.length : Int)
              · rw [if_pos c7] at H
                have c7b0 : decide (x13_1 < (l1.length : Int)) = true := decide_eq_true c7
                clear c7
                by_cases c8 : (rd l0 x13_1) = (rd l1 x13_1)
                · rw [if_pos c8] at H
                  have c8b0 : ((rd l0 x13_1) == (rd l1 x13_1)) = true := beq_iff_eq.mpr c8
                  have c8b1 : ((rd l0 x13_1) != (rd l1 x13_1)) = false := bne_eq_false_iff_eq.mpr c8
                  clear c8
                  have H' := Aside0.mk H
                  clear H
                  have p201 : 0 ≤ (x13_1 : Int) := of_decide_eq_true (by first | (with_reducible assumption) | assumption)
                  have q201 : x13_1 < (l0.length : Int) := of_decide_eq_true (by first | (with_reducible assumption) | assumption)
                  obtain ⟨ad201, e201, hx201_0⟩ := Kd.at_int HR0.out x13_1 p201 q201
                  cases e201
                  replace p201 := eq_true p201
                  replace q201 := eq_true q201
                  have p202 : 0 ≤ (x13_1 : Int) := of_decide_eq_true (by first | (with_reducible assumption) | assumption)
                  have q202 : x13_1 < (l1.length : Int) := of_decide_eq_true (by first | (with_reducible assumption) | assumption)
                  obtain ⟨ad202, e202, hx202_0⟩ := Kd.at_int HR1.out x13_1 p202 q202
                  cases e202
                  replace p202 := eq_true p202
                  replace q202 := eq_true q202
                  go_wp2
                  repeat (go_quiet (fail); try go_wp2)
                  go_roundg k1
                  case measure => have := HK1.out; omega
                  case rel => exact ⟨(wrap64 (x13_1 + 1)), (by first | rfl | (simp; done) | (simp [*]; done)), H', ⟨by have := HK1.out; omega⟩, by repeat (first | exact Drawn0.refl _ | apply Drawn0.step)⟩
                · rw [if_neg c8] at H
                  have c8b0 : ((rd l0 x13_1) == (rd l1 x13_1)) = false := beq_eq_false_iff_ne.mpr c8
                  have c8b1 : ((rd l0 x13_1) != (rd l1 x13_1)) = true := bne_iff_ne.mpr c8
                  obtain rfl := Option.some.inj H
                  have p201 : 0 ≤ (x13_1 : Int) := of_decide_eq_true (by first | (with_reducible assumption) | assumption)
                  have q201 : x13_1 < (l0.length : Int) := of_decide_eq_true (by first | (with_reducible assumption) | assumption)
                  obtain ⟨ad201, e201, hx201_0⟩ := Kd.at_int HR0.out x13_1 p201 q201
                  cases e201
                  replace p201 := eq_true p201
                  replace q201 := eq_true q201
                  have p202 : 0 ≤ (x13_1 : Int) := of_decide_eq_true (by first | (with_reducible assumption) | assumption)
                  have q202 : x13_1 < (l1.length : Int) := of_decide_eq_true (by first | (with_reducible assumption) | assumption)
                  obtain ⟨ad202, e202, hx202_0⟩ := Kd.at_int HR1.out x13_1 p202 q202
                  cases e202
                  replace p202 := eq_true p202
                  replace q202 := eq_true q202
                  go_wp2
                  repeat (go_quiet (fail); try go_wp2)
                  go_ret
                  exact ⟨by first | rfl | (simp; done) | (simp [*]; done), by repeat (first | exact Drawn0.refl _ | apply Drawn0.step)⟩
              · rw [if_neg c7] at H
                exact absurd H (by simp)
            · rw [if_neg c6] at H
              exact absurd H (by simp)
          · rw [if_neg c5] at H
            exact absurd H (by simp)
        · rw [if_neg c4] at H
          have c4b0 : decide (x13_1 < (l0.length : Int)) = false := decide_eq_false c4
          clear c4
          obtain rfl := Option.some.inj H
          go_wp2
          repeat (go_quiet (fail); try go_wp2)
          go_ret
          exact ⟨by first | rfl | (simp; done) | (simp [*]; done), by repeat (first | exact Drawn0.refl _ | apply Drawn0.step)⟩
  · rw [if_neg c3] at H
    have c3b0 : ((l0.length : Int) == (l1.length : Int)) = false := beq_eq_false_iff_ne.mpr c3
    have c3b1 : ((l0.length : Int) != (l1.length : Int)) = true := bne_iff_ne.mpr c3
    have c3b2 : (l0.length == l1.length) = false := by first | simpa using c3 | (simp at c3 ⊢; omega)
    obtain rfl := Option.some.inj H
    go_enter Tryd.func27, Tryd.ntmps27
    go_wp2
    repeat (go_quiet (fail); try go_wp2)
    go_ret
    exact ⟨by first | rfl | (simp; done) | (simp [*]; done), by repeat (first | exact Drawn0.refl _ | apply Drawn0.step)⟩

end Go.Proofs.YtnnondbimdmcaaaDoor.F

namespace Go.Proofs.YtnnondbimdmcaaaDoor.F
open Go.RowKit Go.Proofs.YtnnondbimdmcaaaDoorW.PrintWords Go.Proofs.YtnnondbimdmcaaaDoorW.PrintLast Go.Proofs.YtnnondbimdmcaaaDoorW.PrintMore
attribute [local go_sem] max2_int min2_int max_two min_two max_three min_three max_four min_four   -- for this text's walks alone
set_option linter.unusedVariables false
set_option linter.unusedSimpArgs false
set_option linter.unusedSectionVars false
open Go.Proofs.YtnnondbimdmcaaaDoor
variable [Errs]

/-! ### half_Parse: function 16 -/
def half_Parse.L : List Int := [1, 4]
def half_Parse.l0 : Nat → Int → Int → ByteArray → Int → Int → Option (Int × Option Int)
  | 0, _, _, _, _, _ => none
  | k + 1, x0, x1, x2, x21, x22 => if x22 < x21 then ((half_Name.f x0 x1 x22).bind fun bt228 => (if bt228.1.toList = x2.toList then (some (x22, none)) else (half_Parse.l0 k x0 x1 x2 x21 (wrap64 (x22 + 1))))) else (some (0, some 4))
def half_Parse.f (k : Nat) (a0 : Int) (a1 : Int) (a2 : ByteArray) : Option (Int × Option Int) := (base_Check.f a0 a1).bind fun t226 => (if t226.isNone = true then (half_Parse.l0 k a0 a1 a2 (wrap64 (2 * (wrap64 (a0 + a1)))) 0) else (some (0, some (t226.getD 0))))
theorem half_Parse.mono_l : ∀ k, (∀ y0 y1 y2 y3 y4, LeO (half_Parse.l0 k y0 y1 y2 y3 y4) (half_Parse.l0 (k + 1) y0 y1 y2 y3 y4))
  | 0 => fun _ _ _ _ _ r h => by simp [half_Parse.l0] at h
  | k + 1 => by
    have ih0 := half_Parse.mono_l k
    · intro y0 y1 y2 y3 y4
      unfold half_Parse.l0
      repeat' first
      | (with_reducible exact ih0 _ _ _ _ _)
      | (with_reducible exact LeO.refl _)
      | (with_reducible exact LeO.none _)
      | (with_reducible refine LeO.ite ?_ ?_)
      | (with_reducible refine LeO.bind ?_ (fun _ => ?_))
      | exact ih0 _ _ _ _ _
      | exact LeO.none _
      | refine LeO.ite ?_ ?_
      | refine LeO.bind ?_ (fun _ => ?_)
theorem half_Parse.mono : ∀ a0 a1 a2 k, LeO (half_Parse.f k a0 a1 a2) (half_Parse.f (k + 1) a0 a1 a2) := by
  intro a0 a1 a2 k
  have ih0 := half_Parse.mono_l k
  unfold half_Parse.f
  repeat' first
      | (with_reducible exact ih0 _ _ _ _ _)
      | (with_reducible exact LeO.refl _)
      | (with_reducible exact LeO.none _)
      | (with_reducible refine LeO.ite ?_ ?_)
      | (with_reducible refine LeO.bind ?_ (fun _ => ?_))
      | exact ih0 _ _ _ _ _
      | exact LeO.none _
      | refine LeO.ite ?_ ?_
      | refine LeO.bind ?_ (fun _ => ?_)
set_option maxHeartbeats 8000000 in
set_option maxRecDepth 100000 in
theorem half_Parse.calls (k : Nat) (a0 : Int) (a1 : Int) (a2 : ByteArray) (r1 : Int) (r2 : Option Int) (w : World) (h : half_Parse.f k a0 a1 a2 = some (r1, r2)) (hS : Sent half_Parse.L w) :
    Calls Tryd.prog 16 #[.int .i64 a0, .int .i64 a1, .string a2] w fun e w' => e = .returned (.tuple #[.int .i64 r1, errW r2]) ∧ Below w.heap.size w w' := by
  have hu27 := Tryd.underlying27
  have HB := Aside0.mk (Below.refl w.heap.size w)
  have HS := Aside0.mk hS
  have hgl4 := Sent.cell hS 4 1 rfl (by decide)
  simp only [errW_some] at hgl4
  have hglw4 := Sent.cell0 hS 4 1 rfl (by decide)
  simp only [errW_some] at hglw4
  clear hS
  have H : ((base_Check.f a0 a1).bind fun t226 => (if t226.isNone = true then (half_Parse.l0 k a0 a1 a2 (wrap64 (2 * (wrap64 (a0 + a1)))) 0) else (some (0, some (t226.getD 0))))) = some (r1, r2) := h
  clear h
  replace H := Option.bind_eq_some_iff.mp H
  obtain ⟨t226, A40, H⟩ := H
  replace H : (if t226.isNone = true then (half_Parse.l0 k a0 a1 a2 (wrap64 (2 * (wrap64 (a0 + a1)))) 0) else (some (0, some (t226.getD 0)))) = some (r1, r2) := H
  have A4 := Aside0.mk A40
  clear A40
  rcases t226 with _ | q227
  · have H1 : (half_Parse.l0 k a0 a1 a2 (wrap64 (2 * (wrap64 (a0 + a1)))) 0) = some (r1, r2) := by rw [if_pos (show (none : Option Int).isNone = true by rfl)] at H; exact H
    clear H
    have H := H1
    clear H1
    try simp only [errW_none, errW_some]
    have H' := Aside0.mk H
    clear H
    go_enter Tryd.func16, Tryd.ntmps16
    go_wp2_with (first | (go_at_call 36; (with_reducible refine (base_Check.calls a0 a1 none _ A4.out (Sent.sub (show ∀ c, c ∈ base_Check.L → c ∈ half_Parse.L by decide) (Sent.below HS.out (by repeat (first | (with_reducible first | exact HB.out | apply below_alloc | apply pw_below_drewN | apply below_drew1) | exact HB.out))))).mono ?_); rintro e w' ⟨rfl, ⟨nd, rfl⟩⟩; (try simp only [errW_none, errW_some]); (try first | exact ⟨rfl, _, World.drewN_drewN _ _ _⟩ | exact ⟨rfl, _, Eq.trans (World.drewN_drewN _ _ _) (congrArg (World.drewN _) (Nat.add_assoc _ _ _))⟩)))
    repeat (go_quiet (first | (go_at_call 36; (with_reducible refine (base_Check.calls a0 a1 none _ A4.out (Sent.sub (show ∀ c, c ∈ base_Check.L → c ∈ half_Parse.L by decide) (Sent.below HS.out (by repeat (first | (with_reducible first | exact HB.out | apply below_alloc | apply pw_below_drewN | apply below_drew1) | exact HB.out))))).mono ?_); rintro e w' ⟨rfl, ⟨nd, rfl⟩⟩; (try simp only [errW_none, errW_some]); (try first | exact ⟨rfl, _, World.drewN_drewN _ _ _⟩ | exact ⟨rfl, _, Eq.trans (World.drewN_drewN _ _ _) (congrArg (World.drewN _) (Nat.add_assoc _ _ _))⟩))); try go_wp2_with (first | (go_at_call 36; (with_reducible refine (base_Check.calls a0 a1 none _ A4.out (Sent.sub (show ∀ c, c ∈ base_Check.L → c ∈ half_Parse.L by decide) (Sent.below HS.out (by repeat (first | (with_reducible first | exact HB.out | apply below_alloc | apply pw_below_drewN | apply below_drew1) | exact HB.out))))).mono ?_); rintro e w' ⟨rfl, ⟨nd, rfl⟩⟩; (try simp only [errW_none, errW_some]); (try first | exact ⟨rfl, _, World.drewN_drewN _ _ _⟩ | exact ⟨rfl, _, Eq.trans (World.drewN_drewN _ _ _) (congrArg (World.drewN _) (Nat.add_assoc _ _ _))⟩))))
    go_loopg [22] k (fun kq v22 w' => ∃ (x22_1 : Int), v22 = .int .i64 x22_1 ∧ Aside0 (half_Parse.l0 kq a0 a1 a2 (wrap64 (2 * (wrap64 (a0 + a1)))) x22_1 = some (r1, r2)) ∧ Aside0 (kq ≤ k) ∧ Aside0 (Below w.heap.size w w'))
    case atStart => exact ⟨(0), (by first | rfl | (simp; done) | (simp [*]; done)), H', ⟨Nat.le_refl _⟩, ⟨by repeat (first | (with_reducible first | exact HB.out | apply below_alloc | apply pw_below_drewN | apply below_drew1) | exact HB.out)⟩⟩
    case round =>
      clear H'
      try clear c1
      try clear p2
      try clear q2
      try clear q227
      obtain ⟨x22_1, rfl, HA, HK1, HB⟩ := hrel
      cases gk with
      | zero => exact absurd HA.out (by simp [half_Parse.l0])
      | succ k1 =>
        have H := HA.out
        clear HA
        first | rw [half_Parse.l0] at H | simp only [half_Parse.l0] at H
        by_cases c5 : x22_1 < (wrap64 (2 * (wrap64 (a0 + a1))))
        · rw [if_pos c5] at H
          have c5b0 : decide (x22_1 < (wrap64 (2 * (wrap64 (a0 + a1))))) = true := decide_eq_true c5
          clear c5
          replace H := Option.bind_eq_some_iff.mp H
          obtain ⟨⟨t228, t229⟩, A60, H⟩ := H
          replace H : (if t228.toList = a2.toList then (some (x22_1, none)) else (half_Parse.l0 k1 a0 a1 a2 (wrap64 (2 * (wrap64 (a0 + a1)))) (wrap64 (x22_1 + 1)))) = some (r1, r2) := H
          have A6 := Aside0.mk A60
          clear A60
          by_cases c7 : t228.toList = a2.toList
          · rw [if_pos c7] at H
            have c7b0 : (t228.toList == a2.toList) = true := beq_iff_eq.mpr c7
            have c7b1 : (t228.toList != a2.toList) = false := bne_eq_false_iff_eq.mpr c7
            clear c7
            simp only [Option.some.injEq, Prod.mk.injEq] at H
            obtain ⟨rfl, rfl⟩ := H
            go_wp2_with (first | (go_at_call 15; (with_reducible refine (half_Name.calls a0 a1 x22_1 t228 t229 _ A6.out (Sent.sub (show ∀ c, c ∈ half_Name.L → c ∈ half_Parse.L by decide) (Sent.below HS.out (by repeat (first | (with_reducible first | exact HB.out | apply below_alloc | apply pw_below_drewN | apply below_drew1) | exact HB.out))))).mono ?_); rintro e w8 ⟨rfl, hb⟩; have n0_ := Aside0.mk (below_step (by repeat (first | (with_reducible first | exact HB.out | apply below_alloc | apply pw_below_drewN | apply below_drew1) | exact HB.out)) hb); clear HB; have HB := n0_; clear n0_; (try clear hb); (try clear hb2); (try clear hk); (try clear hi); (try simp only [errW_none, errW_some])))
            repeat (go_quiet (first | (go_at_call 15; (with_reducible refine (half_Name.calls a0 a1 x22_1 t228 t229 _ A6.out (Sent.sub (show ∀ c, c ∈ half_Name.L → c ∈ half_Parse.L by decide) (Sent.below HS.out (by repeat (first | (with_reducible first | exact HB.out | apply below_alloc | apply pw_below_drewN | apply below_drew1) | exact HB.out))))).mono ?_); rintro e w8 ⟨rfl, hb⟩; have n0_ := Aside0.mk (below_step (by repeat (first | (with_reducible first | exact HB.out | apply below_alloc | apply pw_below_drewN | apply below_drew1) | exact HB.out)) hb); clear HB; have HB := n0_; clear n0_; (try clear hb); (try clear hb2); (try clear hk); (try clear hi); (try simp only [errW_none, errW_some]))); try go_wp2_with (first | (go_at_call 15; (with_reducible refine (half_Name.calls a0 a1 x22_1 t228 t229 _ A6.out (Sent.sub (show ∀ c, c ∈ half_Name.L → c ∈ half_Parse.L by decide) (Sent.below HS.out (by repeat (first | (with_reducible first | exact HB.out | apply below_alloc | apply pw_below_drewN | apply below_drew1) | exact HB.out))))).mono ?_); rintro e w8 ⟨rfl, hb⟩; have n0_ := Aside0.mk (below_step (by repeat (first | (with_reducible first | exact HB.out | apply below_alloc | apply pw_below_drewN | apply below_drew1) | exact HB.out)) hb); clear HB; have HB := n0_; clear n0_; (try clear hb); (try clear hb2); (try clear hk); (try clear hi); (try simp only [errW_none, errW_some]))))
            go_ret2
            exact ⟨by first | rfl | (simp [errW_none, errW_some] <;> rfl) | (simp [*, errW_none, errW_some] <;> rfl), by repeat (first | (with_reducible first | exact HB.out | apply below_alloc | apply pw_below_drewN | apply below_drew1) | exact HB.out)⟩
          · rw [if_neg c7] at H
            have c7b0 : (t228.toList == a2.toList) = false := beq_eq_false_iff_ne.mpr c7
            have c7b1 : (t228.toList != a2.toList) = true := bne_iff_ne.mpr c7
            have H' := Aside0.mk H
            clear H
            go_wp2_with (first | (go_at_call 15; (with_reducible refine (half_Name.calls a0 a1 x22_1 t228 t229 _ A6.out (Sent.sub (show ∀ c, c ∈ half_Name.L → c ∈ half_Parse.L by decide) (Sent.below HS.out (by repeat (first | (with_reducible first | exact HB.out | apply below_alloc | apply pw_below_drewN | apply below_drew1) | exact HB.out))))).mono ?_); rintro e w9 ⟨rfl, hb⟩; have n0_ := Aside0.mk (below_step (by repeat (first | (with_reducible first | exact HB.out | apply below_alloc | apply pw_below_drewN | apply below_drew1) | exact HB.out)) hb); clear HB; have HB := n0_; clear n0_; (try clear hb); (try clear hb2); (try clear hk); (try clear hi); (try simp only [errW_none, errW_some])))
            repeat (go_quiet (first | (go_at_call 15; (with_reducible refine (half_Name.calls a0 a1 x22_1 t228 t229 _ A6.out (Sent.sub (show ∀ c, c ∈ half_Name.L → c ∈ half_Parse.L by decide) (Sent.below HS.out (by repeat (first | (with_reducible first | exact HB.out | apply below_alloc | apply pw_below_drewN | apply below_drew1) | exact HB.out))))).mono ?_); rintro e w9 ⟨rfl, hb⟩; have n0_ := Aside0.mk (below_step (by repeat (first | (with_reducible first | exact HB.out | apply below_alloc | apply pw_below_drewN | apply below_drew1) | exact HB.out)) hb); clear HB; have HB := n0_; clear n0_; (try clear hb); (try clear hb2); (try clear hk); (try clear hi); (try simp only [errW_none, errW_some]))); try go_wp2_with (first | (go_at_call 15; (with_reducible refine (half_Name.calls a0 a1 x22_1 t228 t229 _ A6.out (Sent.sub (show ∀ c, c ∈ half_Name.L → c ∈ half_Parse.L by decide) (Sent.below HS.out (by repeat (first | (with_reducible first | exact HB.out | apply below_alloc | apply pw_below_drewN | apply below_drew1) | exact HB.out))))).mono ?_); rintro e w9 ⟨rfl, hb⟩; have n0_ := Aside0.mk (below_step (by repeat (first | (with_reducible first | exact HB.out | apply below_alloc | apply pw_below_drewN | apply below_drew1) | exact HB.out)) hb); clear HB; have HB := n0_; clear n0_; (try clear hb); (try clear hb2); (try clear hk); (try clear hi); (try simp only [errW_none, errW_some]))))
            go_roundg k1
            case measure => have := HK1.out; omega
            case rel => exact ⟨(wrap64 (x22_1 + 1)), (by first | rfl | (simp; done) | (simp [*]; done)), H', ⟨by have := HK1.out; omega⟩, ⟨by repeat (first | (with_reducible first | exact HB.out | apply below_alloc | apply pw_below_drewN | apply below_drew1) | exact HB.out)⟩⟩
        · rw [if_neg c5] at H
          have c5b0 : decide (x22_1 < (wrap64 (2 * (wrap64 (a0 + a1))))) = false := decide_eq_false c5
          clear c5
          simp only [Option.some.injEq, Prod.mk.injEq] at H
          obtain ⟨rfl, rfl⟩ := H
          go_wp2
          repeat (go_quiet (fail); try go_wp2)
          go_ret2
          exact ⟨by first | rfl | (simp [errW_none, errW_some] <;> rfl) | (simp [*, errW_none, errW_some] <;> rfl), by repeat (first | (with_reducible first | exact HB.out | apply below_alloc | apply pw_below_drewN | apply below_drew1) | exact HB.out)⟩
  · have H1 : (some (0, some q227)) = some (r1, r2) := by rw [if_neg (show ¬ (some q227).isNone = true by simp)] at H; exact H
    clear H
    have H := H1
    clear H1
    try simp only [errW_none, errW_some]
    simp only [Option.some.injEq, Prod.mk.injEq] at H
    obtain ⟨rfl, rfl⟩ := H
    go_enter Tryd.func16, Tryd.ntmps16
    go_wp2_with (first | (go_at_call 36; (with_reducible refine (base_Check.calls a0 a1 (some q227) _ A4.out (Sent.sub (show ∀ c, c ∈ base_Check.L → c ∈ half_Parse.L by decide) (Sent.below HS.out (by repeat (first | (with_reducible first | exact HB.out | apply below_alloc | apply pw_below_drewN | apply below_drew1) | exact HB.out))))).mono ?_); rintro e w' ⟨rfl, ⟨nd, rfl⟩⟩; (try simp only [errW_none, errW_some]); (try first | exact ⟨rfl, _, World.drewN_drewN _ _ _⟩ | exact ⟨rfl, _, Eq.trans (World.drewN_drewN _ _ _) (congrArg (World.drewN _) (Nat.add_assoc _ _ _))⟩)))
    repeat (go_quiet (first | (go_at_call 36; (with_reducible refine (base_Check.calls a0 a1 (some q227) _ A4.out (Sent.sub (show ∀ c, c ∈ base_Check.L → c ∈ half_Parse.L by decide) (Sent.below HS.out (by repeat (first | (with_reducible first | exact HB.out | apply below_alloc | apply pw_below_drewN | apply below_drew1) | exact HB.out))))).mono ?_); rintro e w' ⟨rfl, ⟨nd, rfl⟩⟩; (try simp only [errW_none, errW_some]); (try first | exact ⟨rfl, _, World.drewN_drewN _ _ _⟩ | exact ⟨rfl, _, Eq.trans (World.drewN_drewN _ _ _) (congrArg (World.drewN _) (Nat.add_assoc _ _ _))⟩))); try go_wp2_with (first | (go_at_call 36; (with_reducible refine (base_Check.calls a0 a1 (some q227) _ A4.out (Sent.sub (show ∀ c, c ∈ base_Check.L → c ∈ half_Parse.L by decide) (Sent.below HS.out (by repeat (first | (with_reducible first | exact HB.out | apply below_alloc | apply pw_below_drewN | apply below_drew1) | exact HB.out))))).mono ?_); rintro e w' ⟨rfl, ⟨nd, rfl⟩⟩; (try simp only [errW_none, errW_some]); (try first | exact ⟨rfl, _, World.drewN_drewN _ _ _⟩ | exact ⟨rfl, _, Eq.trans (World.drewN_drewN _ _ _) (congrArg (World.drewN _) (Nat.add_assoc _ _ _))⟩))))
    go_ret2
    exact ⟨by first | rfl | (simp [errW_none, errW_some] <;> rfl) | (simp [*, errW_none, errW_some] <;> rfl), by repeat (first | (with_reducible first | exact HB.out | apply below_alloc | apply pw_below_drewN | apply below_drew1) | exact HB.out)⟩

end Go.Proofs.YtnnondbimdmcaaaDoor.F

namespace Go.Proofs.YtnnondbimdmcaaaDoor.F
open Go.RowKit Go.Proofs.YtnnondbimdmcaaaDoorW.PrintWords Go.Proofs.YtnnondbimdmcaaaDoorW.PrintLast Go.Proofs.YtnnondbimdmcaaaDoorW.PrintMore
attribute [local go_sem] max2_int min2_int max_two min_two max_three min_three max_four min_four   -- for this text's walks alone
set_option linter.unusedVariables false
set_option linter.unusedSimpArgs false
set_option linter.unusedSectionVars false
open Go.Proofs.YtnnondbimdmcaaaDoor
variable [Errs]

/-! ### tesseraref05_Number: function 37 -/
def tesseraref05_Number.l0 : Nat → Int → ByteArray → Option (ByteArray)
  | 0, _, _ => none
  | k + 1, x0, x3 => if x3.toList = ([] : List UInt8) then ((some (([(wrap64 (48 + (Int.tmod x0 10))) % 256] : List Int) : List Int)).bind fun y230 => (if (strOfNums y230).size + x3.size ≤ 9223372036854775807 then (tesseraref05_Number.l0 k (wrap64 (Int.tdiv x0 10)) ((strOfNums y230) ++ x3)) else (none))) else (if x0 > 0 then ((some (([(wrap64 (48 + (Int.tmod x0 10))) % 256] : List Int) : List Int)).bind fun y233 => (if (strOfNums y233).size + x3.size ≤ 9223372036854775807 then (tesseraref05_Number.l0 k (wrap64 (Int.tdiv x0 10)) ((strOfNums y233) ++ x3)) else (none))) else (some x3))
def tesseraref05_Number.f (k : Nat) (a0 : Int) : Option (ByteArray) := tesseraref05_Number.l0 k a0 (⟨#[]⟩ : ByteArray)
theorem tesseraref05_Number.mono_l : ∀ k, (∀ y0 y1, LeO (tesseraref05_Number.l0 k y0 y1) (tesseraref05_Number.l0 (k + 1) y0 y1))
  | 0 => fun _ _ r h => by simp [tesseraref05_Number.l0] at h
  | k + 1 => by
    have ih0 := tesseraref05_Number.mono_l k
    · intro y0 y1
      unfold tesseraref05_Number.l0
      repeat' first
      | (with_reducible exact ih0 _ _)
      | (with_reducible exact LeO.refl _)
      | (with_reducible exact LeO.none _)
      | (with_reducible refine LeO.ite ?_ ?_)
      | (with_reducible refine LeO.bind ?_ (fun _ => ?_))
      | exact ih0 _ _
      | exact LeO.none _
      | refine LeO.ite ?_ ?_
      | refine LeO.bind ?_ (fun _ => ?_)
theorem tesseraref05_Number.mono : ∀ a0 k, LeO (tesseraref05_Number.f k a0) (tesseraref05_Number.f (k + 1) a0) := by
  intro a0 k
  have ih0 := tesseraref05_Number.mono_l k
  unfold tesseraref05_Number.f
  repeat' first
      | (with_reducible exact ih0 _ _)
      | (with_reducible exact LeO.refl _)
      | (with_reducible exact LeO.none _)
      | (with_reducible refine LeO.ite ?_ ?_)
      | (with_reducible refine LeO.bind ?_ (fun _ => ?_))
      | exact ih0 _ _
      | exact LeO.none _
      | refine LeO.ite ?_ ?_
      | refine LeO.bind ?_ (fun _ => ?_)
set_option maxHeartbeats 8000000 in
set_option maxRecDepth 100000 in
theorem tesseraref05_Number.calls (k : Nat) (a0 : Int) (r : ByteArray) (w : World) (h : tesseraref05_Number.f k a0 = some r) :
    Calls Tryd.prog 37 #[.int .i64 a0] w fun e w' => e = .returned (.string r) ∧ Below w.heap.size w w' := by
  have HB := Aside0.mk (Below.refl w.heap.size w)
  have H : (tesseraref05_Number.l0 k a0 (⟨#[]⟩ : ByteArray)) = some r := h
  clear h
  have H' := Aside0.mk H
  clear H
  go_enter Tryd.func37, Tryd.ntmps37
  go_wp2
  go_loopg [0, 3] k (fun kq v0 v3 w' => ∃ (x0_1 : Int) (x3_1 : ByteArray), v0 = .int .i64 x0_1 ∧ v3 = .string x3_1 ∧ Aside0 (tesseraref05_Number.l0 kq x0_1 x3_1 = some r) ∧ Aside0 (kq ≤ k) ∧ Aside0 (Below w.heap.size w w'))
  case atStart => exact ⟨(a0), ((⟨#[]⟩ : ByteArray)), (by first | rfl | (simp; done) | (simp [*]; done)), (by first | rfl | (simp; done) | (simp [*]; done)), H', ⟨Nat.le_refl _⟩, ⟨by repeat (first | (with_reducible first | exact HB.out | apply below_alloc | apply pw_below_drewN | apply below_drew1) | exact HB.out)⟩⟩
  case round =>
    clear H'
    obtain ⟨x0_1, x3_1, rfl, rfl, HA, HK1, HB⟩ := hrel
    cases gk with
    | zero => exact absurd HA.out (by simp [tesseraref05_Number.l0])
    | succ k1 =>
      have H := HA.out
      clear HA
      first | rw [tesseraref05_Number.l0] at H | simp only [tesseraref05_Number.l0] at H
      by_cases c2 : x3_1.toList = ([] : List UInt8)
      · rw [if_pos c2] at H
        have c2b0 : (x3_1.toList == ([] : List UInt8)) = true := beq_iff_eq.mpr c2
        have c2b1 : (x3_1.toList != ([] : List UInt8)) = false := bne_eq_false_iff_eq.mpr c2
        clear c2
        obtain ⟨y230, hy230⟩ : ∃ y_ : List Int, y_ = (([(wrap64 (48 + (Int.tmod x0_1 10))) % 256] : List Int)) := ⟨_, rfl⟩
        replace H : (if (strOfNums y230).size + x3_1.size ≤ 9223372036854775807 then (tesseraref05_Number.l0 k1 (wrap64 (Int.tdiv x0_1 10)) ((strOfNums y230) ++ x3_1)) else (none)) = some r := by first | (rw [hy230]; with_reducible exact H) | (have H2_ := (Option.bind_some _ _).symm.trans H; rw [hy230]; with_reducible exact H2_) | (have H2_ := (Option.bind_some _ _).symm.trans H; with_reducible exact H2_) | with_reducible exact H | (rw [hy230]; exact H) | exact H
        have Ny230 := Aside0.mk hy230
        clear hy230
        by_cases c3 : (strOfNums y230).size + x3_1.size ≤ 9223372036854775807
        · rw [if_pos c3] at H
          have c3b0 := eq_true c3
          have c3b1 : decide ((strOfNums y230).size + x3_1.size ≤ 9223372036854775807) = true := decide_eq_true c3
          try have c3b2 : (9223372036854775807 < (strOfNums y230).size + x3_1.size) = False := eq_false (Nat.not_lt.2 c3)
          have H' := Aside0.mk H
          clear H
          go_wp2_with (first | ((with_reducible refine gate_dst (N := 14) rfl ?_); refine Kd.R_lit (Kd.int .u8) _ 5 ?hg (N := 14) ?hd (xs := ([(wrap64 (48 + (Int.tmod x0_1 10))) % 256] : List Int)) (inner := [.int .u8 ((wrap64 (48 + (Int.tmod x0_1 10))) % 256)]) (ok := fun _ => True) (okp := fun _ => True) ?hr ?hp (fun _ hk => hk) trivial (Below.refl _ _) (Nat.le_refl _) (by simp) ?_; (case hd => rfl); (case hg => rfl); (case hr => first | (go_simp; done) | (go_simp; rfl)); (case hp => exact (Reps.one (show Kd.M (Kd.int .u8) _ _ _ ((wrap64 (48 + (Int.tmod x0_1 10))) % 256) [.int .u8 ((wrap64 (48 + (Int.tmod x0_1 10))) % 256)] from rfl) (Reps.none _ _))); intro v231 w4 ho5 hb hg_ hnew_; clear hg_ hnew_; (first | rw [← Ny230.out] at ho5 | (simp only [Int.reduceToNat] at ho5; rw [← Ny230.out] at ho5)); have n0_ := Aside0.mk (Kd.R_lower ho5 (below_size (by repeat (first | (with_reducible first | exact HB.out | apply below_alloc | apply pw_below_drewN | apply below_drew1) | exact HB.out)))); have n1_ := Aside0.mk (below_step (by repeat (first | (with_reducible first | exact HB.out | apply below_alloc | apply pw_below_drewN | apply below_drew1) | exact HB.out)) hb); clear HB; have HO232 := n0_; have HB := n1_; clear n0_ n1_; clear hb ho5; have hcv6 := own_string (P := Tryd.prog) Tryd.underlying39 Tryd.underlying5 Tryd.underlying9 (Kd.own_of_R HO232.out)))
          go_roundg k1
          case measure => have := HK1.out; omega
          case rel => exact ⟨(wrap64 (Int.tdiv x0_1 10)), ((strOfNums y230) ++ x3_1), (by first | rfl | (simp; done) | (simp [*]; done)), (by first | rfl | (simp; done) | (simp [*]; done)), H', ⟨by have := HK1.out; omega⟩, ⟨by repeat (first | (with_reducible first | exact HB.out | apply below_alloc | apply pw_below_drewN | apply below_drew1) | exact HB.out)⟩⟩
        · rw [if_neg c3] at H
          exact absurd H (by simp)
      · rw [if_neg c2] at H
        have c2b0 : (x3_1.toList == ([] : List UInt8)) = false := beq_eq_false_iff_ne.mpr c2
        have c2b1 : (x3_1.toList != ([] : List UInt8)) = true := bne_iff_ne.mpr c2
        by_cases c7 : x0_1 > 0
        · rw [if_pos c7] at H
          have c7b0 : decide (0 < x0_1) = true := decide_eq_true c7
          clear c7
          obtain ⟨y233, hy233⟩ : ∃ y_ : List Int, y_ = (([(wrap64 (48 + (Int.tmod x0_1 10))) % 256] : List Int)) := ⟨_, rfl⟩
          replace H : (if (strOfNums y233).size + x3_1.size ≤ 9223372036854775807 then (tesseraref05_Number.l0 k1 (wrap64 (Int.tdiv x0_1 10)) ((strOfNums y233) ++ x3_1)) else (none)) = some r := by first | (rw [hy233]; with_reducible exact H) | (have H2_ := (Option.bind_some _ _).symm.trans H; rw [hy233]; with_reducible exact H2_) | (have H2_ := (Option.bind_some _ _).symm.trans H; with_reducible exact H2_) | with_reducible exact H | (rw [hy233]; exact H) | exact H
          have Ny233 := Aside0.mk hy233
          clear hy233
          by_cases c8 : (strOfNums y233).size + x3_1.size ≤ 9223372036854775807
          · rw [if_pos c8] at H
            have c8b0 := eq_true c8
            have c8b1 : decide ((strOfNums y233).size + x3_1.size ≤ 9223372036854775807) = true := decide_eq_true c8
            try have c8b2 : (9223372036854775807 < (strOfNums y233).size + x3_1.size) = False := eq_false (Nat.not_lt.2 c8)
            have H' := Aside0.mk H
            clear H
            go_wp2_with (first | ((with_reducible refine gate_dst (N := 14) rfl ?_); refine Kd.R_lit (Kd.int .u8) _ 5 ?hg (N := 14) ?hd (xs := ([(wrap64 (48 + (Int.tmod x0_1 10))) % 256] : List Int)) (inner := [.int .u8 ((wrap64 (48 + (Int.tmod x0_1 10))) % 256)]) (ok := fun _ => True) (okp := fun _ => True) ?hr ?hp (fun _ hk => hk) trivial (Below.refl _ _) (Nat.le_refl _) (by simp) ?_; (case hd => rfl); (case hg => rfl); (case hr => first | (go_simp; done) | (go_simp; rfl)); (case hp => exact (Reps.one (show Kd.M (Kd.int .u8) _ _ _ ((wrap64 (48 + (Int.tmod x0_1 10))) % 256) [.int .u8 ((wrap64 (48 + (Int.tmod x0_1 10))) % 256)] from rfl) (Reps.none _ _))); intro v234 w9 ho10 hb hg_ hnew_; clear hg_ hnew_; (first | rw [← Ny233.out] at ho10 | (simp only [Int.reduceToNat] at ho10; rw [← Ny233.out] at ho10)); have n0_ := Aside0.mk (Kd.R_lower ho10 (below_size (by repeat (first | (with_reducible first | exact HB.out | apply below_alloc | apply pw_below_drewN | apply below_drew1) | exact HB.out)))); have n1_ := Aside0.mk (below_step (by repeat (first | (with_reducible first | exact HB.out | apply below_alloc | apply pw_below_drewN | apply below_drew1) | exact HB.out)) hb); clear HB; have HO235 := n0_; have HB := n1_; clear n0_ n1_; clear hb ho10; have hcv11 := own_string (P := Tryd.prog) Tryd.underlying39 Tryd.underlying5 Tryd.underlying9 (Kd.own_of_R HO235.out)))
            go_roundg k1
            case measure => have := HK1.out; omega
            case rel => exact ⟨(wrap64 (Int.tdiv x0_1 10)), ((strOfNums y233) ++ x3_1), (by first | rfl | (simp; done) | (simp [*]; done)), (by first | rfl | (simp; done) | (simp [*]; done)), H', ⟨by have := HK1.out; omega⟩, ⟨by repeat (first | (with_reducible first | exact HB.out | apply below_alloc | apply pw_below_drewN | apply below_drew1) | exact HB.out)⟩⟩
          · rw [if_neg c8] at H
            exact absurd H (by simp)
        · rw [if_neg c7] at H
          have c7b0 : decide (0 < x0_1) = false := decide_eq_false c7
          clear c7
          obtain rfl := Option.some.inj H
          go_wp2
          go_ret
          exact ⟨by first | rfl | (simp [errW_none, errW_some] <;> rfl) | (simp [*, errW_none, errW_some] <;> rfl), by repeat (first | (with_reducible first | exact HB.out | apply below_alloc | apply pw_below_drewN | apply below_drew1) | exact HB.out)⟩

end Go.Proofs.YtnnondbimdmcaaaDoor.F

namespace Go.Proofs.YtnnondbimdmcaaaDoor.F
open Go.RowKit Go.Proofs.YtnnondbimdmcaaaDoorW.PrintWords Go.Proofs.YtnnondbimdmcaaaDoorW.PrintLast Go.Proofs.YtnnondbimdmcaaaDoorW.PrintMore
attribute [local go_sem] max2_int min2_int max_two min_two max_three min_three max_four min_four   -- for this text's walks alone
set_option linter.unusedVariables false
set_option linter.unusedSimpArgs false
set_option linter.unusedSectionVars false
open Go.Proofs.YtnnondbimdmcaaaDoor
variable [Errs]

/-! ### tesseraref05_Name: function 17 -/
def tesseraref05_Name.f (k : Nat) (a0 : Int) (a1 : Int) : Option (ByteArray) := (tesseraref05_Number.f k (wrap64 (Int.tdiv a1 2))).bind fun t236 => (if 1 + t236.size ≤ 9223372036854775807 then (if (wrap64 (Int.tdiv a1 2)) ≥ a0 then ((tesseraref05_Number.f k (wrap64 ((wrap64 (Int.tdiv a1 2)) - a0))).bind fun t237 => (if 1 + t237.size ≤ 9223372036854775807 then (if (Int.tmod a1 2) = 0 then (if 1 + t237.size + 1 ≤ 9223372036854775807 then (some (((⟨#[112]⟩ : ByteArray) ++ t237) ++ (⟨#[97]⟩ : ByteArray))) else (none)) else (if 1 + t237.size + 1 ≤ 9223372036854775807 then (some (((⟨#[112]⟩ : ByteArray) ++ t237) ++ (⟨#[98]⟩ : ByteArray))) else (none))) else (none))) else (if (Int.tmod a1 2) = 0 then (if 1 + t236.size + 1 ≤ 9223372036854775807 then (some (((⟨#[100]⟩ : ByteArray) ++ t236) ++ (⟨#[97]⟩ : ByteArray))) else (none)) else (if 1 + t236.size + 1 ≤ 9223372036854775807 then (some (((⟨#[100]⟩ : ByteArray) ++ t236) ++ (⟨#[98]⟩ : ByteArray))) else (none)))) else (none))
theorem tesseraref05_Name.mono : ∀ a0 a1 k, LeO (tesseraref05_Name.f k a0 a1) (tesseraref05_Name.f (k + 1) a0 a1) := by
  intro a0 a1 k
  unfold tesseraref05_Name.f
  repeat' first
      | (with_reducible exact tesseraref05_Number.mono _ _)
      | (with_reducible exact LeO.refl _)
      | (with_reducible exact LeO.none _)
      | (with_reducible refine LeO.ite ?_ ?_)
      | (with_reducible refine LeO.bind ?_ (fun _ => ?_))
      | exact tesseraref05_Number.mono _ _
      | exact LeO.none _
      | refine LeO.ite ?_ ?_
      | refine LeO.bind ?_ (fun _ => ?_)
set_option maxHeartbeats 8000000 in
set_option maxRecDepth 100000 in
theorem tesseraref05_Name.calls (k : Nat) (a0 : Int) (a1 : Int) (r : ByteArray) (w : World) (h : tesseraref05_Name.f k a0 a1 = some r) :
    Calls Tryd.prog 17 #[.int .i64 a0, .int .i64 a1] w fun e w' => e = .returned (.string r) ∧ Below w.heap.size w w' := by
  have HB := Aside0.mk (Below.refl w.heap.size w)
  have H : ((tesseraref05_Number.f k (wrap64 (Int.tdiv a1 2))).bind fun t236 => (if 1 + t236.size ≤ 9223372036854775807 then (if (wrap64 (Int.tdiv a1 2)) ≥ a0 then ((tesseraref05_Number.f k (wrap64 ((wrap64 (Int.tdiv a1 2)) - a0))).bind fun t237 => (if 1 + t237.size ≤ 9223372036854775807 then (if (Int.tmod a1 2) = 0 then (if 1 + t237.size + 1 ≤ 9223372036854775807 then (some (((⟨#[112]⟩ : ByteArray) ++ t237) ++ (⟨#[97]⟩ : ByteArray))) else (none)) else (if 1 + t237.size + 1 ≤ 9223372036854775807 then (some (((⟨#[112]⟩ : ByteArray) ++ t237) ++ (⟨#[98]⟩ : ByteArray))) else (none))) else (none))) else (if (Int.tmod a1 2) = 0 then (if 1 + t236.size + 1 ≤ 9223372036854775807 then (some (((⟨#[100]⟩ : ByteArray) ++ t236) ++ (⟨#[97]⟩ : ByteArray))) else (none)) else (if 1 + t236.size + 1 ≤ 9223372036854775807 then (some (((⟨#[100]⟩ : ByteArray) ++ t236) ++ (⟨#[98]⟩ : ByteArray))) else (none)))) else (none))) = some r := h
  clear h
  replace H := Option.bind_eq_some_iff.mp H
  obtain ⟨t236, A30, H⟩ := H
  replace H : (if 1 + t236.size ≤ 9223372036854775807 then (if (wrap64 (Int.tdiv a1 2)) ≥ a0 then ((tesseraref05_Number.f k (wrap64 ((wrap64 (Int.tdiv a1 2)) - a0))).bind fun t237 => (if 1 + t237.size ≤ 9223372036854775807 then (if (Int.tmod a1 2) = 0 then (if 1 + t237.size + 1 ≤ 9223372036854775807 then (some (((⟨#[112]⟩ : ByteArray) ++ t237) ++ (⟨#[97]⟩ : ByteArray))) else (none)) else (if 1 + t237.size + 1 ≤ 9223372036854775807 then (some (((⟨#[112]⟩ : ByteArray) ++ t237) ++ (⟨#[98]⟩ : ByteArray))) else (none))) else (none))) else (if (Int.tmod a1 2) = 0 then (if 1 + t236.size + 1 ≤ 9223372036854775807 then (some (((⟨#[100]⟩ : ByteArray) ++ t236) ++ (⟨#[97]⟩ : ByteArray))) else (none)) else (if 1 + t236.size + 1 ≤ 9223372036854775807 then (some (((⟨#[100]⟩ : ByteArray) ++ t236) ++ (⟨#[98]⟩ : ByteArray))) else (none)))) else (none)) = some r := H
  have A3 := Aside0.mk A30
  clear A30
  by_cases c4 : 1 + t236.size ≤ 9223372036854775807
  · rw [if_pos c4] at H
    have c4b0 := eq_true c4
    have c4b1 : decide (1 + t236.size ≤ 9223372036854775807) = true := decide_eq_true c4
    try have c4b2 : (9223372036854775807 < 1 + t236.size) = False := eq_false (Nat.not_lt.2 c4)
    by_cases c5 : (wrap64 (Int.tdiv a1 2)) ≥ a0
    · rw [if_pos c5] at H
      have c5b0 : decide (a0 ≤ (wrap64 (Int.tdiv a1 2))) = true := decide_eq_true c5
      clear c5
      replace H := Option.bind_eq_some_iff.mp H
      obtain ⟨t237, A60, H⟩ := H
      replace H : (if 1 + t237.size ≤ 9223372036854775807 then (if (Int.tmod a1 2) = 0 then (if 1 + t237.size + 1 ≤ 9223372036854775807 then (some (((⟨#[112]⟩ : ByteArray) ++ t237) ++ (⟨#[97]⟩ : ByteArray))) else (none)) else (if 1 + t237.size + 1 ≤ 9223372036854775807 then (some (((⟨#[112]⟩ : ByteArray) ++ t237) ++ (⟨#[98]⟩ : ByteArray))) else (none))) else (none)) = some r := H
      have A6 := Aside0.mk A60
      clear A60
      by_cases c7 : 1 + t237.size ≤ 9223372036854775807
      · rw [if_pos c7] at H
        have c7b0 := eq_true c7
        have c7b1 : decide (1 + t237.size ≤ 9223372036854775807) = true := decide_eq_true c7
        try have c7b2 : (9223372036854775807 < 1 + t237.size) = False := eq_false (Nat.not_lt.2 c7)
        by_cases c8 : (Int.tmod a1 2) = 0
        · rw [if_pos c8] at H
          have c8b0 : ((Int.tmod a1 2) == 0) = true := beq_iff_eq.mpr c8
          have c8b1 : ((Int.tmod a1 2) != 0) = false := bne_eq_false_iff_eq.mpr c8
          clear c8
          by_cases c9 : 1 + t237.size + 1 ≤ 9223372036854775807
          · rw [if_pos c9] at H
            have c9b0 := eq_true c9
            have c9b1 : decide (1 + t237.size + 1 ≤ 9223372036854775807) = true := decide_eq_true c9
            try have c9b2 : (9223372036854775807 < 1 + t237.size + 1) = False := eq_false (Nat.not_lt.2 c9)
            obtain rfl := Option.some.inj H
            go_enter Tryd.func17, Tryd.ntmps17
            go_wp2_with (first | ((with_reducible refine gate_callee (f := 37) rfl ?_); refine goesL_ (some 8) rfl rfl Tryd.func37 (by kernel_rfl) rfl #[.int .i64 (wrap64 (Int.tdiv a1 2))] rfl (by (try simp only [List.map_toArray, List.map_cons, List.map_nil]); first | done | rfl | (simp only [List.length_drop, List.length_take]; rfl)) ?_; (with_reducible refine (tesseraref05_Number.calls k (wrap64 (Int.tdiv a1 2)) t236 _ A3.out).mono ?_); rintro e w10 ⟨rfl, hb⟩; refine ⟨_, rfl, ?_⟩; have n0_ := Aside0.mk (below_step (by repeat (first | (with_reducible first | exact HB.out | apply below_alloc | apply pw_below_drewN | apply below_drew1) | exact HB.out)) hb); clear HB; have HB := n0_; clear n0_; (try clear hb); (try clear hb2); (try clear hk); (try clear hi)) | ((with_reducible refine gate_callee (f := 37) rfl ?_); refine goesL_ (some 18) rfl rfl Tryd.func37 (by kernel_rfl) rfl #[.int .i64 (wrap64 ((wrap64 (Int.tdiv a1 2)) - a0))] rfl (by (try simp only [List.map_toArray, List.map_cons, List.map_nil]); first | done | rfl | (simp only [List.length_drop, List.length_take]; rfl)) ?_; (with_reducible refine (tesseraref05_Number.calls k (wrap64 ((wrap64 (Int.tdiv a1 2)) - a0)) t237 _ A6.out).mono ?_); rintro e w11 ⟨rfl, hb⟩; refine ⟨_, rfl, ?_⟩; have n0_ := Aside0.mk (below_step (by repeat (first | (with_reducible first | exact HB.out | apply below_alloc | apply pw_below_drewN | apply below_drew1) | exact HB.out)) hb); clear HB; have HB := n0_; clear n0_; (try clear hb); (try clear hb2); (try clear hk); (try clear hi)))
            go_ret
            exact ⟨by first | rfl | (simp [errW_none, errW_some] <;> rfl) | (simp [*, errW_none, errW_some] <;> rfl), by repeat (first | (with_reducible first | exact HB.out | apply below_alloc | apply pw_below_drewN | apply below_drew1) | exact HB.out)⟩
          · rw [if_neg c9] at H
            exact absurd H (by simp)
        · rw [if_neg c8] at H
          have c8b0 : ((Int.tmod a1 2) == 0) = false := beq_eq_false_iff_ne.mpr c8
          have c8b1 : ((Int.tmod a1 2) != 0) = true := bne_iff_ne.mpr c8
          by_cases c12 : 1 + t237.size + 1 ≤ 9223372036854775807
          · rw [if_pos c12] at H
            have c12b0 := eq_true c12
            have c12b1 : decide (1 + t237.size + 1 ≤ 9223372036854775807) = true := decide_eq_true c12
            try have c12b2 : (9223372036854775807 < 1 + t237.size + 1) = False := eq_false (Nat.not_lt.2 c12)
            obtain rfl := Option.some.inj H
            go_enter Tryd.func17, Tryd.ntmps17
            go_wp2_with (first | ((with_reducible refine gate_callee (f := 37) rfl ?_); refine goesL_ (some 8) rfl rfl Tryd.func37 (by kernel_rfl) rfl #[.int .i64 (wrap64 (Int.tdiv a1 2))] rfl (by (try simp only [List.map_toArray, List.map_cons, List.map_nil]); first | done | rfl | (simp only [List.length_drop, List.length_take]; rfl)) ?_; (with_reducible refine (tesseraref05_Number.calls k (wrap64 (Int.tdiv a1 2)) t236 _ A3.out).mono ?_); rintro e w13 ⟨rfl, hb⟩; refine ⟨_, rfl, ?_⟩; have n0_ := Aside0.mk (below_step (by repeat (first | (with_reducible first | exact HB.out | apply below_alloc | apply pw_below_drewN | apply below_drew1) | exact HB.out)) hb); clear HB; have HB := n0_; clear n0_; (try clear hb); (try clear hb2); (try clear hk); (try clear hi)) | ((with_reducible refine gate_callee (f := 37) rfl ?_); refine goesL_ (some 18) rfl rfl Tryd.func37 (by kernel_rfl) rfl #[.int .i64 (wrap64 ((wrap64 (Int.tdiv a1 2)) - a0))] rfl (by (try simp only [List.map_toArray, List.map_cons, List.map_nil]); first | done | rfl | (simp only [List.length_drop, List.length_take]; rfl)) ?_; (with_reducible refine (tesseraref05_Number.calls k (wrap64 ((wrap64 (Int.tdiv a1 2)) - a0)) t237 _ A6.out).mono ?_); rintro e w14 ⟨rfl, hb⟩; refine ⟨_, rfl, ?_⟩; have n0_ := Aside0.mk (below_step (by repeat (first | (with_reducible first | exact HB.out | apply below_alloc | apply pw_below_drewN | apply below_drew1) | exact HB.out)) hb); clear HB; have HB := n0_; clear n0_; (try clear hb); (try clear hb2); (try clear hk); (try clear hi)))
            go_ret
            exact ⟨by first | rfl | (simp [errW_none, errW_some] <;> rfl) | (simp [*, errW_none, errW_some] <;> rfl), by repeat (first | (with_reducible first | exact HB.out | apply below_alloc | apply pw_below_drewN | apply below_drew1) | exact HB.out)⟩
          · rw [if_neg c12] at H
            exact absurd H (by simp)
      · rw [if_neg c7] at H
        exact absurd H (by simp)
    · rw [if_neg c5] at H
      have c5b0 : decide (a0 ≤ (wrap64 (Int.tdiv a1 2))) = false := decide_eq_false c5
      clear c5
      by_cases c15 : (Int.tmod a1 2) = 0
      · rw [if_pos c15] at H
        have c15b0 : ((Int.tmod a1 2) == 0) = true := beq_iff_eq.mpr c15
        have c15b1 : ((Int.tmod a1 2) != 0) = false := bne_eq_false_iff_eq.mpr c15
        clear c15
        by_cases c16 : 1 + t236.size + 1 ≤ 9223372036854775807
        · rw [if_pos c16] at H
          have c16b0 := eq_true c16
          have c16b1 : decide (1 + t236.size + 1 ≤ 9223372036854775807) = true := decide_eq_true c16
          try have c16b2 : (9223372036854775807 < 1 + t236.size + 1) = False := eq_false (Nat.not_lt.2 c16)
          obtain rfl := Option.some.inj H
          go_enter Tryd.func17, Tryd.ntmps17
          go_wp2_with (first | ((with_reducible refine gate_callee (f := 37) rfl ?_); refine goesL_ (some 8) rfl rfl Tryd.func37 (by kernel_rfl) rfl #[.int .i64 (wrap64 (Int.tdiv a1 2))] rfl (by (try simp only [List.map_toArray, List.map_cons, List.map_nil]); first | done | rfl | (simp only [List.length_drop, List.length_take]; rfl)) ?_; (with_reducible refine (tesseraref05_Number.calls k (wrap64 (Int.tdiv a1 2)) t236 _ A3.out).mono ?_); rintro e w17 ⟨rfl, hb⟩; refine ⟨_, rfl, ?_⟩; have n0_ := Aside0.mk (below_step (by repeat (first | (with_reducible first | exact HB.out | apply below_alloc | apply pw_below_drewN | apply below_drew1) | exact HB.out)) hb); clear HB; have HB := n0_; clear n0_; (try clear hb); (try clear hb2); (try clear hk); (try clear hi)))
          go_ret
          exact ⟨by first | rfl | (simp [errW_none, errW_some] <;> rfl) | (simp [*, errW_none, errW_some] <;> rfl), by repeat (first | (with_reducible first | exact HB.out | apply below_alloc | apply pw_below_drewN | apply below_drew1) | exact HB.out)⟩
        · rw [if_neg c16] at H
          exact absurd H (by simp)
      · rw [if_neg c15] at H
        have c15b0 : ((Int.tmod a1 2) == 0) = false := beq_eq_false_iff_ne.mpr c15
        have c15b1 : ((Int.tmod a1 2) != 0) = true := bne_iff_ne.mpr c15
        by_cases c18 : 1 + t236.size + 1 ≤ 9223372036854775807
        · rw [if_pos c18] at H
          have c18b0 := eq_true c18
          have c18b1 : decide (1 + t236.size + 1 ≤ 9223372036854775807) = true := decide_eq_true c18
          try have c18b2 : (9223372036854775807 < 1 + t236.size + 1) = False := eq_false (Nat.not_lt.2 c18)
          obtain rfl := Option.some.inj H
          go_enter Tryd.func17, Tryd.ntmps17
          go_wp2_with (first | ((with_reducible refine gate_callee (f := 37) rfl ?_); refine goesL_ (some 8) rfl rfl Tryd.func37 (by kernel_rfl) rfl #[.int .i64 (wrap64 (Int.tdiv a1 2))] rfl (by (try simp only [List.map_toArray, List.map_cons, List.map_nil]); first | done | rfl | (simp only [List.length_drop, List.length_take]; rfl)) ?_; (with_reducible refine (tesseraref05_Number.calls k (wrap64 (Int.tdiv a1 2)) t236 _ A3.out).mono ?_); rintro e w19 ⟨rfl, hb⟩; refine ⟨_, rfl, ?_⟩; have n0_ := Aside0.mk (below_step (by repeat (first | (with_reducible first | exact HB.out | apply below_alloc | apply pw_below_drewN | apply below_drew1) | exact HB.out)) hb); clear HB; have HB := n0_; clear n0_; (try clear hb); (try clear hb2); (try clear hk); (try clear hi)))
          go_ret
          exact ⟨by first | rfl | (simp [errW_none, errW_some] <;> rfl) | (simp [*, errW_none, errW_some] <;> rfl), by repeat (first | (with_reducible first | exact HB.out | apply below_alloc | apply pw_below_drewN | apply below_drew1) | exact HB.out)⟩
        · rw [if_neg c18] at H
          exact absurd H (by simp)
  · rw [if_neg c4] at H
    exact absurd H (by simp)

end Go.Proofs.YtnnondbimdmcaaaDoor.F

namespace Go.Proofs.YtnnondbimdmcaaaDoor.Plain
open Go.RowKit Go.Proofs.YtnnondbimdmcaaaDoorW.PrintWords Go.Proofs.YtnnondbimdmcaaaDoorW.PrintLast Go.Proofs.YtnnondbimdmcaaaDoor.F
set_option linter.unusedVariables false
abbrev nameErrs : Errs := ⟨fun _ => ⟨0, 0, none⟩⟩
attribute [local instance] nameErrs

def nm (a b h : Nat) : ByteArray := ((half_Name.f a b h).map (·.1)).getD ⟨#[]⟩
def nmOk (a b : Nat) : Bool :=
  ((List.range (2 * (a + b))).all fun h => decide (half_Name.f (a : Int) (b : Int) (h : Int) = some (nm a b h, none)) && decide (tesseraref05_Name.f 20 (a : Int) (h : Int) = some (nm a b h))) &&
  decide (((List.range (2 * (a + b))).map fun h => (nm a b h).toList).Nodup)
def legalB (a b : Nat) : Bool := decide (1 ≤ a) && decide (2 ≤ b) && decide (a + b ≤ 16)
theorem nm_all : ((List.range 17).all fun a => (List.range 17).all fun b => !(legalB a b) || nmOk a b) = true := by kernel_rfl

/-- Legal or not: what the two texts ask. -/
theorem legal_cases (a b : Int) :
    (∃ A B : Nat, a = A ∧ b = B ∧ legalB A B = true ∧ tesseraref04_Legal.f a b = some true ∧ base_Check.f a b = some none) ∨
    (tesseraref04_Legal.f a b = some false ∧ base_Check.f a b = some (some 1)) := by
  by_cases c : 1 ≤ a ∧ 2 ≤ b ∧ b ≤ 16 ∧ a + b ≤ 16
  · obtain ⟨c0, c1, c2, c3⟩ := c
    left
    refine ⟨a.toNat, b.toNat, by omega, by omega, ?_, ?_, ?_⟩
    · simp [legalB]; omega
    · unfold tesseraref04_Legal.f
      have : wrap64 (a + b) = a + b := by unfold wrap64; omega
      rw [if_pos (by omega), if_pos (by omega), if_pos (by omega), if_pos (by omega), this, decide_eq_true (by omega)]
    · unfold base_Check.f
      have : wrap64 (16 - a) = 16 - a := by unfold wrap64; omega
      rw [if_neg (by omega), if_neg (by omega), if_neg (by omega), this, if_neg (by omega)]
  · right
    constructor
    · unfold tesseraref04_Legal.f
      by_cases c0 : a ≥ 1
      · by_cases c1 : a ≤ 16
        · by_cases c2 : b ≥ 2
          · by_cases c3 : b ≤ 16
            · have : wrap64 (a + b) = a + b := by unfold wrap64; omega
              rw [if_pos c0, if_pos c1, if_pos c2, if_pos c3, this, decide_eq_false (by omega)]
            · rw [if_pos c0, if_pos c1, if_pos c2, if_neg c3]
          · rw [if_pos c0, if_pos c1, if_neg c2]
        · rw [if_pos c0, if_neg c1]
      · rw [if_neg c0]
    · unfold base_Check.f
      by_cases c0 : a < 1
      · rw [if_pos c0]
      · by_cases c1 : a ≥ 16
        · rw [if_neg c0, if_pos c1]
        · by_cases c2 : b < 2
          · rw [if_neg c0, if_neg c1, if_pos c2]
          · have : wrap64 (16 - a) = 16 - a := by unfold wrap64; omega
            rw [if_neg c0, if_neg c1, if_neg c2, this, if_pos (by omega)]

structure Names (a b : Nat) : Prop where
  la : 1 ≤ a
  lb : 2 ≤ b
  lab : a + b ≤ 16
  name : ∀ h, h < 2 * (a + b) → half_Name.f (a : Int) (b : Int) (h : Int) = some (nm a b h, none)
  ref : ∀ h, h < 2 * (a + b) → ∀ K, 20 ≤ K → tesseraref05_Name.f K (a : Int) (h : Int) = some (nm a b h)
  apart : ∀ g h, g < h → h < 2 * (a + b) → (nm a b g).toList ≠ (nm a b h).toList

theorem names_of (a b : Nat) (h : legalB a b = true) : Names a b := by
  have hl : (1 ≤ a ∧ 2 ≤ b) ∧ a + b ≤ 16 := by simpa [legalB] using h
  obtain ⟨⟨la, lb⟩, lab⟩ := hl
  have h1 := List.all_eq_true.1 nm_all a (List.mem_range.2 (by omega))
  have h2 := List.all_eq_true.1 h1 b (List.mem_range.2 (by omega))
  rw [h, Bool.not_true, Bool.false_or] at h2
  unfold nmOk at h2
  rw [Bool.and_eq_true] at h2
  obtain ⟨h3, h4⟩ := h2
  have h5 : ∀ g, g < 2 * (a + b) → _ := fun g hg => List.all_eq_true.1 h3 g (List.mem_range.2 hg)
  have hn := of_decide_eq_true h4
  refine ⟨la, lb, lab, fun g hg => ?_, fun g hg K hK => ?_, fun g h' hgh hh => ?_⟩
  · have := h5 g hg
    rw [Bool.and_eq_true] at this
    exact of_decide_eq_true this.1
  · have := h5 g hg
    rw [Bool.and_eq_true] at this
    exact at_rounds (g := fun K => tesseraref05_Name.f K (a : Int) (g : Int)) (tesseraref05_Name.mono _ _) hK (of_decide_eq_true this.2)
  · rw [List.nodup_iff_pairwise_ne, List.pairwise_iff_getElem] at hn
    have := hn g h' (by simp; omega) (by simp; omega) hgh
    simpa using this

/-- The first half from i on of a name, d halves looked at. -/
def fm (a b : Nat) (t : ByteArray) : Nat → Nat → Option Nat
  | _, 0 => none
  | i, d + 1 => if (nm a b i).toList = t.toList then some i else fm a b t (i + 1) d
def res : Option Nat → Int × Option Int
  | none => (0, some 4)
  | some h => ((h : Int), none)

theorem parse_from {a b : Nat} (N : Names a b) (t : ByteArray) : ∀ (d i K : Nat), i + d = 2 * (a + b) → d < K →
    half_Parse.l0 K (a : Int) (b : Int) t ((2 * (a + b) : Nat) : Int) (i : Int) = some (res (fm a b t i d)) := by
  intro d
  induction d with
  | zero =>
    intro i K hi hK
    obtain ⟨K, rfl⟩ : ∃ m, K = m + 1 := ⟨K - 1, by omega⟩
    rw [half_Parse.l0, if_neg (by omega)]; rfl
  | succ d ih =>
    intro i K hi hK
    obtain ⟨K, rfl⟩ : ∃ m, K = m + 1 := ⟨K - 1, by omega⟩
    have lab := N.lab
    rw [half_Parse.l0, if_pos (by omega), N.name i (by omega), Option.bind_some]
    have hw : wrap64 ((i : Int) + 1) = ((i + 1 : Nat) : Int) := by unfold wrap64; omega
    rw [fm]
    by_cases e : (nm a b i).toList = t.toList
    · rw [if_pos e, if_pos e]; rfl
    · rw [if_neg e, if_neg e, hw]
      exact ih (i + 1) K (by omega) (by omega)

theorem parse_all {a b : Nat} (N : Names a b) (hc : base_Check.f (a : Int) (b : Int) = some none) (t : ByteArray) (K : Nat) (hK : 2 * (a + b) < K) :
    half_Parse.f K (a : Int) (b : Int) t = some (res (fm a b t 0 (2 * (a + b)))) := by
  unfold half_Parse.f
  have lab := N.lab
  have hw : wrap64 (2 * wrap64 ((a : Int) + (b : Int))) = ((2 * (a + b) : Nat) : Int) := by unfold wrap64; omega
  rw [hc, Option.bind_some, if_pos (show (none : Option Int).isNone = true by rfl), hw]
  exact parse_from N t _ 0 K (by omega) hK

theorem fm_own {a b : Nat} (N : Names a b) (h : Nat) (hh : h < 2 * (a + b)) : ∀ (d i : Nat), i + d = 2 * (a + b) → i ≤ h → fm a b (nm a b h) i d = some h := by
  intro d
  induction d with
  | zero => intro i hi hle; omega
  | succ d ih =>
    intro i hi hle
    rw [fm]
    rcases Nat.lt_or_ge i h with hlt | hge
    · rw [if_neg (N.apart i h hlt hh)]
      exact ih (i + 1) (by omega) (by omega)
    · have e : i = h := by omega
      subst e
      rw [if_pos rfl]
end Go.Proofs.YtnnondbimdmcaaaDoor.Plain

namespace Go.Proofs.YtnnondbimdmcaaaDoor.halfNumbers
open Go.ChangeShapes Go.WideShapes Go.ChangeAt Go.RowKit
open Go.ChangeMaps (open_string shut_string)
set_option linter.unusedVariables false
set_option linter.unusedSimpArgs false
theorem gErrParams : Tryd.prog.globalNamed "tessera/api.ErrParams" = some 0 := by kernel_rfl
theorem tErrParams : (Tryd.prog.globals[0]?).map (·.type) = some 27 := by kernel_rfl
theorem gErrHalf : Tryd.prog.globalNamed "tessera/api.ErrHalf" = some 1 := by kernel_rfl
theorem tErrHalf : (Tryd.prog.globals[1]?).map (·.type) = some 27 := by kernel_rfl
theorem gErrNumber : Tryd.prog.globalNamed "tessera/api.ErrNumber" = some 2 := by kernel_rfl
theorem tErrNumber : (Tryd.prog.globals[2]?).map (·.type) = some 27 := by kernel_rfl
theorem cellsE : Tryd.prog.cellsOf 127 = 1 := by kernel_rfl
theorem cellsT : Tryd.prog.cellsOf 9 = 1 := by kernel_rfl
theorem star : "*" ++ "errors.errorString" = "*errors.errorString" := by decide
theorem rowE (u : TypeId) (h : Tryd.prog.typeName? 3 u = some "*errors.errorString") : u = 111 :=
  typeName_ptr_named (nm := "errors.errorString") (by rw [star]; kernel_rfl) (by kernel_rfl) (by decide) u (by rw [star]; exact h)
set_option maxRecDepth 100000 in
/-- The listed sentinels, each at a place of its own. -/
theorem sentinels {W : World} (h : laidMet Tryd.prog [("tessera/api.ErrParams", Rows.laid_tessera_api_ErrParams), ("tessera/api.ErrHalf", Rows.laid_tessera_api_ErrHalf), ("tessera/api.ErrNumber", Rows.laid_tessera_api_ErrNumber)] W) : ∃ E : Errs, @Sent E [1, 4, 12] W := by
  obtain ⟨ps, ⟨g0, t0, cs0, f0, p0, q0, hg0, ht0, hv0, hd0, ⟨g1, t1, cs1, f1, p1, q1, hg1, ht1, hv1, hd1, ⟨g2, t2, cs2, f2, p2, q2, hg2, ht2, hv2, hd2, hq, e2⟩, e1⟩, e0⟩, hnd, hrows⟩ := h
  obtain rfl := Option.some.inj (gErrParams.symm.trans hg0)
  obtain rfl := Option.some.inj (tErrParams.symm.trans ht0)
  obtain rfl := Option.some.inj (gErrHalf.symm.trans hg1)
  obtain rfl := Option.some.inj (tErrHalf.symm.trans ht1)
  obtain rfl := Option.some.inj (gErrNumber.symm.trans hg2)
  obtain rfl := Option.some.inj (tErrNumber.symm.trans ht2)
  have hq' : q2 = [] := hq
  subst hq'
  subst e2
  subst e1
  subst e0
  obtain ⟨l0⟩ := cs0
  have ok0 : ∀ u v, l0 = [.iface u v] → Value.okWide Tryd.prog W .any 0 u v := fun u v e => by
    subst e
    exact (hrows 0 0 (by simp [MemPlace.row])).2 u v (by simpa using World.var?_cell hg0 hv0 0)
  obtain ⟨a0, s0, rfl, hc0, hs0, hz0, rfl⟩ := errorString_of_trod Tryd.underlying27 rowE Tryd.underlying111 Tryd.underlying127 rfl rfl Tryd.underlying9 cellsE cellsT hd0 ok0
  have hcell0 : W.cell? ⟨0, 0, none⟩ = some (.iface 111 (.pointer (some a0))) := by simpa using World.var?_cell hg0 hv0 0
  have hblk0 := (hrows a0.block a0.off (by simp [MemPlace.row])).1
  obtain ⟨l1⟩ := cs1
  have ok1 : ∀ u v, l1 = [.iface u v] → Value.okWide Tryd.prog W .any 0 u v := fun u v e => by
    subst e
    exact (hrows 1 0 (by simp [MemPlace.row])).2 u v (by simpa using World.var?_cell hg1 hv1 0)
  obtain ⟨a1, s1, rfl, hc1, hs1, hz1, rfl⟩ := errorString_of_trod Tryd.underlying27 rowE Tryd.underlying111 Tryd.underlying127 rfl rfl Tryd.underlying9 cellsE cellsT hd1 ok1
  have hcell1 : W.cell? ⟨1, 0, none⟩ = some (.iface 111 (.pointer (some a1))) := by simpa using World.var?_cell hg1 hv1 0
  have hblk1 := (hrows a1.block a1.off (by simp [MemPlace.row])).1
  obtain ⟨l2⟩ := cs2
  have ok2 : ∀ u v, l2 = [.iface u v] → Value.okWide Tryd.prog W .any 0 u v := fun u v e => by
    subst e
    exact (hrows 2 0 (by simp [MemPlace.row])).2 u v (by simpa using World.var?_cell hg2 hv2 0)
  obtain ⟨a2, s2, rfl, hc2, hs2, hz2, rfl⟩ := errorString_of_trod Tryd.underlying27 rowE Tryd.underlying111 Tryd.underlying127 rfl rfl Tryd.underlying9 cellsE cellsT hd2 ok2
  have hcell2 : W.cell? ⟨2, 0, none⟩ = some (.iface 111 (.pointer (some a2))) := by simpa using World.var?_cell hg2 hv2 0
  have hblk2 := (hrows a2.block a2.off (by simp [MemPlace.row])).1
  have hne0_1 : a0 ≠ a1 := by
    intro e
    rw [e] at hnd
    simp [MemPlace.row] at hnd
  have hne0_2 : a0 ≠ a2 := by
    intro e
    rw [e] at hnd
    simp [MemPlace.row] at hnd
  have hne1_2 : a1 ≠ a2 := by
    intro e
    rw [e] at hnd
    simp [MemPlace.row] at hnd
  refine ⟨⟨fun c => if c = 1 then a0 else if c = 4 then a1 else if c = 12 then a2 else default⟩, ?_⟩
  refine @Sent.mk ⟨fun c => if c = 1 then a0 else if c = 4 then a1 else if c = 12 then a2 else default⟩ _ W ?_ ?_ ?_
  · intro c hc
    simp only [List.mem_cons, List.not_mem_nil, or_false] at hc
    rcases hc with rfl | rfl | rfl
    · exact hcell0
    · exact hcell1
    · exact hcell2
  · intro c hc
    simp only [List.mem_cons, List.not_mem_nil, or_false] at hc
    rcases hc with rfl | rfl | rfl
    · exact hblk0
    · exact hblk1
    · exact hblk2
  · intro c d hc hd e
    simp only [List.mem_cons, List.not_mem_nil, or_false] at hc hd
    rcases hc with rfl | rfl | rfl <;> rcases hd with rfl | rfl | rfl <;> first | rfl | exact absurd e hne0_1 | exact absurd e hne0_1.symm | exact absurd e hne0_2 | exact absurd e hne0_2.symm | exact absurd e hne1_2 | exact absurd e hne1_2.symm
end Go.Proofs.YtnnondbimdmcaaaDoor.halfNumbers
