-- Written by eprint.py, a program of this session, over the kit's printer. Lean checks it.
import Derived.Test.YtnnondbimdmcaaaDoorF0
import Derived.Test.YtnnondbimdmcaaaDoorF36
namespace Go.Proofs.YtnnondbimdmcaaaDoor.F
open Go.RowKit Go.Proofs.YtnnondbimdmcaaaDoorW.PrintWords Go.Proofs.YtnnondbimdmcaaaDoorW.PrintLast Go.Proofs.YtnnondbimdmcaaaDoorW.PrintMore
attribute [local go_sem] max2_int min2_int max_two min_two max_three min_three max_four min_four   -- for this text's walks alone
set_option linter.unusedVariables false
set_option linter.unusedSimpArgs false
set_option linter.unusedSectionVars false
open Go.Proofs.YtnnondbimdmcaaaDoor
variable [Errs]

/-! ### half_check: function 33 -/
def half_check.L : List Int := [1, 4]
def half_check.f (a0 : Int) (a1 : Int) (a2 : Int) : Option (Option Int) := (base_Check.f a0 a1).bind fun t101 => (if t101.isNone = true then (if a2 < 0 then (some (some 4)) else (if a2 ≥ (wrap64 (2 * (wrap64 (a0 + a1)))) then (some (some 4)) else (some none))) else (some (some (t101.getD 0))))
set_option maxHeartbeats 8000000 in
set_option maxRecDepth 100000 in
theorem half_check.calls (a0 : Int) (a1 : Int) (a2 : Int) (r : Option Int) (w : World) (h : half_check.f a0 a1 a2 = some r) (hS : Sent half_check.L w) :
    Calls Tryd.prog 33 #[.int .i64 a0, .int .i64 a1, .int .i64 a2] w fun e w' => e = .returned (errW r) ∧ Drawn0 w w' := by
  have hu27 := Tryd.underlying27
  have HS := Aside0.mk hS
  have hgl4 := Sent.cell0 hS 4 1 rfl (by decide)
  simp only [errW_some] at hgl4
  clear hS
  have H : ((base_Check.f a0 a1).bind fun t101 => (if t101.isNone = true then (if a2 < 0 then (some (some 4)) else (if a2 ≥ (wrap64 (2 * (wrap64 (a0 + a1)))) then (some (some 4)) else (some none))) else (some (some (t101.getD 0))))) = some r := h
  clear h
  replace H := Option.bind_eq_some_iff.mp H
  obtain ⟨t101, A40, H⟩ := H
  replace H : (if t101.isNone = true then (if a2 < 0 then (some (some 4)) else (if a2 ≥ (wrap64 (2 * (wrap64 (a0 + a1)))) then (some (some 4)) else (some none))) else (some (some (t101.getD 0)))) = some r := H
  have A4 := Aside0.mk A40
  clear A40
  rcases t101 with _ | q102
  · have H1 : (if a2 < 0 then (some (some 4)) else (if a2 ≥ (wrap64 (2 * (wrap64 (a0 + a1)))) then (some (some 4)) else (some none))) = some r := by rw [if_pos (show (none : Option Int).isNone = true by rfl)] at H; exact H
    clear H
    have H := H1
    clear H1
    try simp only [errW_none, errW_some]
    by_cases c5 : a2 < 0
    · rw [if_pos c5] at H
      have c5b0 : decide (a2 < 0) = true := decide_eq_true c5
      clear c5
      obtain rfl := Option.some.inj H
      go_enter Tryd.func33, Tryd.ntmps33
      go_wp2_with (first | ((with_reducible refine gate_callee (f := 36) rfl ?_); refine goesL_ (some 10) rfl rfl Tryd.func36 (by kernel_rfl) rfl #[.int .i64 a0, .int .i64 a1] rfl (by (try simp only [List.map_toArray, List.map_cons, List.map_nil]); first | done | rfl | (simp only [List.length_drop, List.length_take]; rfl)) ?_; (with_reducible refine (base_Check.calls a0 a1 none _ A4.out (Sent.sub (show ∀ c, c ∈ base_Check.L → c ∈ half_check.L by decide) (by repeat (first | (with_reducible first | exact HS.out | apply Sent.drewN | apply Sent.drew) | exact HS.out)))).mono ?_); rintro e w' ⟨rfl, ⟨nd, rfl⟩⟩; refine ⟨_, rfl, ?_⟩; (try simp only [errW_none, errW_some])))
      go_ret
      exact ⟨by first | rfl | (simp; done) | (simp [*]; done), by repeat (first | exact Drawn0.refl _ | apply Drawn0.step)⟩
    · rw [if_neg c5] at H
      have c5b0 : decide (a2 < 0) = false := decide_eq_false c5
      clear c5
      by_cases c6 : a2 ≥ (wrap64 (2 * (wrap64 (a0 + a1))))
      · rw [if_pos c6] at H
        have c6b0 : decide ((wrap64 (2 * (wrap64 (a0 + a1)))) ≤ a2) = true := decide_eq_true c6
        clear c6
        obtain rfl := Option.some.inj H
        go_enter Tryd.func33, Tryd.ntmps33
        go_wp2_with (first | ((with_reducible refine gate_callee (f := 36) rfl ?_); refine goesL_ (some 10) rfl rfl Tryd.func36 (by kernel_rfl) rfl #[.int .i64 a0, .int .i64 a1] rfl (by (try simp only [List.map_toArray, List.map_cons, List.map_nil]); first | done | rfl | (simp only [List.length_drop, List.length_take]; rfl)) ?_; (with_reducible refine (base_Check.calls a0 a1 none _ A4.out (Sent.sub (show ∀ c, c ∈ base_Check.L → c ∈ half_check.L by decide) (by repeat (first | (with_reducible first | exact HS.out | apply Sent.drewN | apply Sent.drew) | exact HS.out)))).mono ?_); rintro e w' ⟨rfl, ⟨nd, rfl⟩⟩; refine ⟨_, rfl, ?_⟩; (try simp only [errW_none, errW_some])))
        go_ret
        exact ⟨by first | rfl | (simp; done) | (simp [*]; done), by repeat (first | exact Drawn0.refl _ | apply Drawn0.step)⟩
      · rw [if_neg c6] at H
        have c6b0 : decide ((wrap64 (2 * (wrap64 (a0 + a1)))) ≤ a2) = false := decide_eq_false c6
        clear c6
        obtain rfl := Option.some.inj H
        go_enter Tryd.func33, Tryd.ntmps33
        go_wp2_with (first | ((with_reducible refine gate_callee (f := 36) rfl ?_); refine goesL_ (some 10) rfl rfl Tryd.func36 (by kernel_rfl) rfl #[.int .i64 a0, .int .i64 a1] rfl (by (try simp only [List.map_toArray, List.map_cons, List.map_nil]); first | done | rfl | (simp only [List.length_drop, List.length_take]; rfl)) ?_; (with_reducible refine (base_Check.calls a0 a1 none _ A4.out (Sent.sub (show ∀ c, c ∈ base_Check.L → c ∈ half_check.L by decide) (by repeat (first | (with_reducible first | exact HS.out | apply Sent.drewN | apply Sent.drew) | exact HS.out)))).mono ?_); rintro e w' ⟨rfl, ⟨nd, rfl⟩⟩; refine ⟨_, rfl, ?_⟩; (try simp only [errW_none, errW_some])))
        go_ret
        exact ⟨by first | rfl | (simp; done) | (simp [*]; done), by repeat (first | exact Drawn0.refl _ | apply Drawn0.step)⟩
  · have H1 : (some (some q102)) = some r := by rw [if_neg (show ¬ (some q102).isNone = true by simp)] at H; exact H
    clear H
    have H := H1
    clear H1
    try simp only [errW_none, errW_some]
    obtain rfl := Option.some.inj H
    go_enter Tryd.func33, Tryd.ntmps33
    go_wp2_with (first | ((with_reducible refine gate_callee (f := 36) rfl ?_); refine goesL_ (some 10) rfl rfl Tryd.func36 (by kernel_rfl) rfl #[.int .i64 a0, .int .i64 a1] rfl (by (try simp only [List.map_toArray, List.map_cons, List.map_nil]); first | done | rfl | (simp only [List.length_drop, List.length_take]; rfl)) ?_; (with_reducible refine (base_Check.calls a0 a1 (some q102) _ A4.out (Sent.sub (show ∀ c, c ∈ base_Check.L → c ∈ half_check.L by decide) (by repeat (first | (with_reducible first | exact HS.out | apply Sent.drewN | apply Sent.drew) | exact HS.out)))).mono ?_); rintro e w' ⟨rfl, ⟨nd, rfl⟩⟩; refine ⟨_, rfl, ?_⟩; (try simp only [errW_none, errW_some])))
    go_ret
    exact ⟨by first | rfl | (simp; done) | (simp [*]; done), by repeat (first | exact Drawn0.refl _ | apply Drawn0.step)⟩

end Go.Proofs.YtnnondbimdmcaaaDoor.F
