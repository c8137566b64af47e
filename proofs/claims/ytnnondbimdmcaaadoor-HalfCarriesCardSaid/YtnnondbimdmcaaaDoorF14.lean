-- Written by eprint.py, a program of this session, over the kit's printer. Lean checks it.
import Derived.Test.YtnnondbimdmcaaaDoorF0
import Derived.Test.YtnnondbimdmcaaaDoorF32
namespace Go.Proofs.YtnnondbimdmcaaaDoor.F
open Go.RowKit Go.Proofs.YtnnondbimdmcaaaDoorW.PrintWords Go.Proofs.YtnnondbimdmcaaaDoorW.PrintLast Go.Proofs.YtnnondbimdmcaaaDoorW.PrintMore
attribute [local go_sem] max2_int min2_int max_two min_two max_three min_three max_four min_four   -- for this text's walks alone
set_option linter.unusedVariables false
set_option linter.unusedSimpArgs false
set_option linter.unusedSectionVars false
open Go.Proofs.YtnnondbimdmcaaaDoor
variable [Errs]

/-! ### half_Carrier: function 14 -/
def half_Carrier.L : List Int := [1, 12]
def half_Carrier.f (a0 : Int) (a1 : Int) (a2 : Int) : Option (Int × Option Int) := (base_Group.f a0 a1).bind fun bt178 => (if bt178.2.isNone = true then (if a2 < 0 then (some (0, some 12)) else (if a2 ≥ a0 then (some (0, some 12)) else (if bt178.1 = 0 then (none) else (some (wrap64 (1 + (wrap64 (Int.tdiv a2 bt178.1))), none))))) else (some (0, some (bt178.2.getD 0))))
set_option maxHeartbeats 8000000 in
set_option maxRecDepth 100000 in
theorem half_Carrier.calls (a0 : Int) (a1 : Int) (a2 : Int) (r1 : Int) (r2 : Option Int) (w : World) (h : half_Carrier.f a0 a1 a2 = some (r1, r2)) (hS : Sent half_Carrier.L w) :
    Calls Tryd.prog 14 #[.int .i64 a0, .int .i64 a1, .int .i64 a2] w fun e w' => e = .returned (.tuple #[.int .i64 r1, errW r2]) ∧ Drawn0 w w' := by
  have hu27 := Tryd.underlying27
  have HS := Aside0.mk hS
  have hgl12 := Sent.cell0 hS 12 2 rfl (by decide)
  simp only [errW_some] at hgl12
  clear hS
  have H : ((base_Group.f a0 a1).bind fun bt178 => (if bt178.2.isNone = true then (if a2 < 0 then (some (0, some 12)) else (if a2 ≥ a0 then (some (0, some 12)) else (if bt178.1 = 0 then (none) else (some (wrap64 (1 + (wrap64 (Int.tdiv a2 bt178.1))), none))))) else (some (0, some (bt178.2.getD 0))))) = some (r1, r2) := h
  clear h
  replace H := Option.bind_eq_some_iff.mp H
  obtain ⟨⟨t178, t179⟩, A40, H⟩ := H
  replace H : (if t179.isNone = true then (if a2 < 0 then (some (0, some 12)) else (if a2 ≥ a0 then (some (0, some 12)) else (if t178 = 0 then (none) else (some (wrap64 (1 + (wrap64 (Int.tdiv a2 t178))), none))))) else (some (0, some (t179.getD 0)))) = some (r1, r2) := H
  have A4 := Aside0.mk A40
  clear A40
  rcases t179 with _ | q180
  · have H1 : (if a2 < 0 then (some (0, some 12)) else (if a2 ≥ a0 then (some (0, some 12)) else (if t178 = 0 then (none) else (some (wrap64 (1 + (wrap64 (Int.tdiv a2 t178))), none))))) = some (r1, r2) := by rw [if_pos (show (none : Option Int).isNone = true by rfl)] at H; exact H
    clear H
    have H := H1
    clear H1
    try simp only [errW_none, errW_some]
    by_cases c5 : a2 < 0
    · rw [if_pos c5] at H
      have c5b0 : decide (a2 < 0) = true := decide_eq_true c5
      clear c5
      simp only [Option.some.injEq, Prod.mk.injEq] at H
      obtain ⟨rfl, rfl⟩ := H
      go_enter Tryd.func14, Tryd.ntmps14
      go_wp2_with (first | (go_at_call 32; (with_reducible refine (base_Group.calls a0 a1 t178 none _ A4.out (Sent.sub (show ∀ c, c ∈ base_Group.L → c ∈ half_Carrier.L by decide) (by repeat (first | (with_reducible first | exact HS.out | apply Sent.drewN | apply Sent.drew) | exact HS.out)))).mono ?_); rintro e w' ⟨rfl, ⟨nd, rfl⟩⟩; (try simp only [errW_none, errW_some]); (try first | exact ⟨rfl, _, World.drewN_drewN _ _ _⟩ | exact ⟨rfl, _, Eq.trans (World.drewN_drewN _ _ _) (congrArg (World.drewN _) (Nat.add_assoc _ _ _))⟩)))
      repeat (go_quiet (first | (go_at_call 32; (with_reducible refine (base_Group.calls a0 a1 t178 none _ A4.out (Sent.sub (show ∀ c, c ∈ base_Group.L → c ∈ half_Carrier.L by decide) (by repeat (first | (with_reducible first | exact HS.out | apply Sent.drewN | apply Sent.drew) | exact HS.out)))).mono ?_); rintro e w' ⟨rfl, ⟨nd, rfl⟩⟩; (try simp only [errW_none, errW_some]); (try first | exact ⟨rfl, _, World.drewN_drewN _ _ _⟩ | exact ⟨rfl, _, Eq.trans (World.drewN_drewN _ _ _) (congrArg (World.drewN _) (Nat.add_assoc _ _ _))⟩))); try go_wp2_with (first | (go_at_call 32; (with_reducible refine (base_Group.calls a0 a1 t178 none _ A4.out (Sent.sub (show ∀ c, c ∈ base_Group.L → c ∈ half_Carrier.L by decide) (by repeat (first | (with_reducible first | exact HS.out | apply Sent.drewN | apply Sent.drew) | exact HS.out)))).mono ?_); rintro e w' ⟨rfl, ⟨nd, rfl⟩⟩; (try simp only [errW_none, errW_some]); (try first | exact ⟨rfl, _, World.drewN_drewN _ _ _⟩ | exact ⟨rfl, _, Eq.trans (World.drewN_drewN _ _ _) (congrArg (World.drewN _) (Nat.add_assoc _ _ _))⟩))))
      go_ret2
      exact ⟨by first | rfl | (simp; done) | (simp [*]; done), by repeat (first | exact Drawn0.refl _ | apply Drawn0.step)⟩
    · rw [if_neg c5] at H
      have c5b0 : decide (a2 < 0) = false := decide_eq_false c5
      clear c5
      by_cases c6 : a2 ≥ a0
      · rw [if_pos c6] at H
        have c6b0 : decide (a0 ≤ a2) = true := decide_eq_true c6
        clear c6
        simp only [Option.some.injEq, Prod.mk.injEq] at H
        obtain ⟨rfl, rfl⟩ := H
        go_enter Tryd.func14, Tryd.ntmps14
        go_wp2_with (first | (go_at_call 32; (with_reducible refine (base_Group.calls a0 a1 t178 none _ A4.out (Sent.sub (show ∀ c, c ∈ base_Group.L → c ∈ half_Carrier.L by decide) (by repeat (first | (with_reducible first | exact HS.out | apply Sent.drewN | apply Sent.drew) | exact HS.out)))).mono ?_); rintro e w' ⟨rfl, ⟨nd, rfl⟩⟩; (try simp only [errW_none, errW_some]); (try first | exact ⟨rfl, _, World.drewN_drewN _ _ _⟩ | exact ⟨rfl, _, Eq.trans (World.drewN_drewN _ _ _) (congrArg (World.drewN _) (Nat.add_assoc _ _ _))⟩)))
        repeat (go_quiet (first | (go_at_call 32; (with_reducible refine (base_Group.calls a0 a1 t178 none _ A4.out (Sent.sub (show ∀ c, c ∈ base_Group.L → c ∈ half_Carrier.L by decide) (by repeat (first | (with_reducible first | exact HS.out | apply Sent.drewN | apply Sent.drew) | exact HS.out)))).mono ?_); rintro e w' ⟨rfl, ⟨nd, rfl⟩⟩; (try simp only [errW_none, errW_some]); (try first | exact ⟨rfl, _, World.drewN_drewN _ _ _⟩ | exact ⟨rfl, _, Eq.trans (World.drewN_drewN _ _ _) (congrArg (World.drewN _) (Nat.add_assoc _ _ _))⟩))); try go_wp2_with (first | (go_at_call 32; (with_reducible refine (base_Group.calls a0 a1 t178 none _ A4.out (Sent.sub (show ∀ c, c ∈ base_Group.L → c ∈ half_Carrier.L by decide) (by repeat (first | (with_reducible first | exact HS.out | apply Sent.drewN | apply Sent.drew) | exact HS.out)))).mono ?_); rintro e w' ⟨rfl, ⟨nd, rfl⟩⟩; (try simp only [errW_none, errW_some]); (try first | exact ⟨rfl, _, World.drewN_drewN _ _ _⟩ | exact ⟨rfl, _, Eq.trans (World.drewN_drewN _ _ _) (congrArg (World.drewN _) (Nat.add_assoc _ _ _))⟩))))
        go_ret2
        exact ⟨by first | rfl | (simp; done) | (simp [*]; done), by repeat (first | exact Drawn0.refl _ | apply Drawn0.step)⟩
      · rw [if_neg c6] at H
        have c6b0 : decide (a0 ≤ a2) = false := decide_eq_false c6
        clear c6
        by_cases c7 : t178 = 0
        · rw [if_pos c7] at H
          exact absurd H (by simp)
        · rw [if_neg c7] at H
          have c7b0 : (t178 == 0) = false := beq_eq_false_iff_ne.mpr c7
          have c7b1 : (t178 != 0) = true := bne_iff_ne.mpr c7
          simp only [Option.some.injEq, Prod.mk.injEq] at H
          obtain ⟨rfl, rfl⟩ := H
          go_enter Tryd.func14, Tryd.ntmps14
          go_wp2_with (first | (go_at_call 32; (with_reducible refine (base_Group.calls a0 a1 t178 none _ A4.out (Sent.sub (show ∀ c, c ∈ base_Group.L → c ∈ half_Carrier.L by decide) (by repeat (first | (with_reducible first | exact HS.out | apply Sent.drewN | apply Sent.drew) | exact HS.out)))).mono ?_); rintro e w' ⟨rfl, ⟨nd, rfl⟩⟩; (try simp only [errW_none, errW_some]); (try first | exact ⟨rfl, _, World.drewN_drewN _ _ _⟩ | exact ⟨rfl, _, Eq.trans (World.drewN_drewN _ _ _) (congrArg (World.drewN _) (Nat.add_assoc _ _ _))⟩)))
          repeat (go_quiet (first | (go_at_call 32; (with_reducible refine (base_Group.calls a0 a1 t178 none _ A4.out (Sent.sub (show ∀ c, c ∈ base_Group.L → c ∈ half_Carrier.L by decide) (by repeat (first | (with_reducible first | exact HS.out | apply Sent.drewN | apply Sent.drew) | exact HS.out)))).mono ?_); rintro e w' ⟨rfl, ⟨nd, rfl⟩⟩; (try simp only [errW_none, errW_some]); (try first | exact ⟨rfl, _, World.drewN_drewN _ _ _⟩ | exact ⟨rfl, _, Eq.trans (World.drewN_drewN _ _ _) (congrArg (World.drewN _) (Nat.add_assoc _ _ _))⟩))); try go_wp2_with (first | (go_at_call 32; (with_reducible refine (base_Group.calls a0 a1 t178 none _ A4.out (Sent.sub (show ∀ c, c ∈ base_Group.L → c ∈ half_Carrier.L by decide) (by repeat (first | (with_reducible first | exact HS.out | apply Sent.drewN | apply Sent.drew) | exact HS.out)))).mono ?_); rintro e w' ⟨rfl, ⟨nd, rfl⟩⟩; (try simp only [errW_none, errW_some]); (try first | exact ⟨rfl, _, World.drewN_drewN _ _ _⟩ | exact ⟨rfl, _, Eq.trans (World.drewN_drewN _ _ _) (congrArg (World.drewN _) (Nat.add_assoc _ _ _))⟩))))
          go_ret2
          exact ⟨by first | rfl | (simp; done) | (simp [*]; done), by repeat (first | exact Drawn0.refl _ | apply Drawn0.step)⟩
  · have H1 : (some (0, some q180)) = some (r1, r2) := by rw [if_neg (show ¬ (some q180).isNone = true by simp)] at H; exact H
    clear H
    have H := H1
    clear H1
    try simp only [errW_none, errW_some]
    simp only [Option.some.injEq, Prod.mk.injEq] at H
    obtain ⟨rfl, rfl⟩ := H
    go_enter Tryd.func14, Tryd.ntmps14
    go_wp2_with (first | (go_at_call 32; (with_reducible refine (base_Group.calls a0 a1 t178 (some q180) _ A4.out (Sent.sub (show ∀ c, c ∈ base_Group.L → c ∈ half_Carrier.L by decide) (by repeat (first | (with_reducible first | exact HS.out | apply Sent.drewN | apply Sent.drew) | exact HS.out)))).mono ?_); rintro e w' ⟨rfl, ⟨nd, rfl⟩⟩; (try simp only [errW_none, errW_some]); (try first | exact ⟨rfl, _, World.drewN_drewN _ _ _⟩ | exact ⟨rfl, _, Eq.trans (World.drewN_drewN _ _ _) (congrArg (World.drewN _) (Nat.add_assoc _ _ _))⟩)))
    repeat (go_quiet (first | (go_at_call 32; (with_reducible refine (base_Group.calls a0 a1 t178 (some q180) _ A4.out (Sent.sub (show ∀ c, c ∈ base_Group.L → c ∈ half_Carrier.L by decide) (by repeat (first | (with_reducible first | exact HS.out | apply Sent.drewN | apply Sent.drew) | exact HS.out)))).mono ?_); rintro e w' ⟨rfl, ⟨nd, rfl⟩⟩; (try simp only [errW_none, errW_some]); (try first | exact ⟨rfl, _, World.drewN_drewN _ _ _⟩ | exact ⟨rfl, _, Eq.trans (World.drewN_drewN _ _ _) (congrArg (World.drewN _) (Nat.add_assoc _ _ _))⟩))); try go_wp2_with (first | (go_at_call 32; (with_reducible refine (base_Group.calls a0 a1 t178 (some q180) _ A4.out (Sent.sub (show ∀ c, c ∈ base_Group.L → c ∈ half_Carrier.L by decide) (by repeat (first | (with_reducible first | exact HS.out | apply Sent.drewN | apply Sent.drew) | exact HS.out)))).mono ?_); rintro e w' ⟨rfl, ⟨nd, rfl⟩⟩; (try simp only [errW_none, errW_some]); (try first | exact ⟨rfl, _, World.drewN_drewN _ _ _⟩ | exact ⟨rfl, _, Eq.trans (World.drewN_drewN _ _ _) (congrArg (World.drewN _) (Nat.add_assoc _ _ _))⟩))))
    go_ret2
    exact ⟨by first | rfl | (simp; done) | (simp [*]; done), by repeat (first | exact Drawn0.refl _ | apply Drawn0.step)⟩

end Go.Proofs.YtnnondbimdmcaaaDoor.F
