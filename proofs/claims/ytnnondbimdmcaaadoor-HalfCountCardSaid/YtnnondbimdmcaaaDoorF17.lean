-- Written by eprint.py, a program of this session, over the kit's printer. Lean checks it.
import Derived.Test.YtnnondbimdmcaaaDoorF0
import Derived.Test.YtnnondbimdmcaaaDoorF37
namespace Go.Proofs.YtnnondbimdmcaaaDoor.F
open Go.RowKit Go.Proofs.YtnnondbimdmcaaaDoorW.PrintWords Go.Proofs.YtnnondbimdmcaaaDoorW.PrintLast Go.Proofs.YtnnondbimdmcaaaDoorW.PrintMore
attribute [local go_sem] max2_int min2_int max_two min_two max_three min_three max_four min_four   -- for this text's walks alone
set_option linter.unusedVariables false
set_option linter.unusedSimpArgs false
set_option linter.unusedSectionVars false
open Go.Proofs.YtnnondbimdmcaaaDoor
variable [Errs]

/-! ### tesseraref05_Name: function 17 -/
def tesseraref05_Name.f (k : Nat) (a0 : Int) (a1 : Int) : Option (ByteArray) := (tesseraref05_Number.f k (wrap64 (Int.tdiv a1 2))).bind fun t236 => (if 1 + t236.size ≤ 9223372036854775807 then (if (wrap64 (Int.tdiv a1 2)) ≥ a0 then ((tesseraref05_Number.f k (wrap64 ((wrap64 (Int.tdiv a1 2)) - a0))).bind fun t237 => (if 1 + t237.size ≤ 9223372036854775807 then (if (Int.tmod a1 2) = 0 then (if 1 + t237.size + 1 ≤ 9223372036854775807 then (some (((⟨#[112]⟩ : ByteArray) ++ t237) ++ (⟨#[97]⟩ : ByteArray))) else (none)) else (if 1 + t237.size + 1 ≤ 9223372036854775807 then (some (((⟨#[112]⟩ : ByteArray) ++ t237) ++ (⟨#[98]⟩ : ByteArray))) else (none))) else (none))) else (if (Int.tmod a1 2) = 0 then (if 1 + t236.size + 1 ≤ 9223372036854775807 then (some (((⟨#[100]⟩ : ByteArray) ++ t236) ++ (⟨#[97]⟩ : ByteArray))) else (none)) else (if 1 + t236.size + 1 ≤ 9223372036854775807 then (some (((⟨#[100]⟩ : ByteArray) ++ t236) ++ (⟨#[98]⟩ : ByteArray))) else (none)))) else (none))
theorem tesseraref05_Name.mono : ∀ a0 a1 k, LeO (tesseraref05_Name.f k a0 a1) (tesseraref05_Name.f (k + 1) a0 a1) := by
  intro a0 a1 k
  unfold tesseraref05_Name.f
  repeat' first
      | (with_reducible exact tesseraref05_Number.mono _ _)
      | (with_reducible exact LeO.refl _)
      | (with_reducible exact LeO.none _)
      | (with_reducible refine LeO.ite ?_ ?_)
      | (with_reducible refine LeO.bind ?_ (fun _ => ?_))
      | exact tesseraref05_Number.mono _ _
      | exact LeO.none _
      | refine LeO.ite ?_ ?_
      | refine LeO.bind ?_ (fun _ => ?_)
set_option maxHeartbeats 8000000 in
set_option maxRecDepth 100000 in
theorem tesseraref05_Name.calls (k : Nat) (a0 : Int) (a1 : Int) (r : ByteArray) (w : World) (h : tesseraref05_Name.f k a0 a1 = some r) :
    Calls Tryd.prog 17 #[.int .i64 a0, .int .i64 a1] w fun e w' => e = .returned (.string r) ∧ Below w.heap.size w w' := by
  have HB := Aside0.mk (Below.refl w.heap.size w)
  have H : ((tesseraref05_Number.f k (wrap64 (Int.tdiv a1 2))).bind fun t236 => (if 1 + t236.size ≤ 9223372036854775807 then (if (wrap64 (Int.tdiv a1 2)) ≥ a0 then ((tesseraref05_Number.f k (wrap64 ((wrap64 (Int.tdiv a1 2)) - a0))).bind fun t237 => (if 1 + t237.size ≤ 9223372036854775807 then (if (Int.tmod a1 2) = 0 then (if 1 + t237.size + 1 ≤ 9223372036854775807 then (some (((⟨#[112]⟩ : ByteArray) ++ t237) ++ (⟨#[97]⟩ : ByteArray))) else (none)) else (if 1 + t237.size + 1 ≤ 9223372036854775807 then (some (((⟨#[112]⟩ : ByteArray) ++ t237) ++ (⟨#[98]⟩ : ByteArray))) else (none))) else (none))) else (if (Int.tmod a1 2) = 0 then (if 1 + t236.size + 1 ≤ 9223372036854775807 then (some (((⟨#[100]⟩ : ByteArray) ++ t236) ++ (⟨#[97]⟩ : ByteArray))) else (none)) else (if 1 + t236.size + 1 ≤ 9223372036854775807 then (some (((⟨#[100]⟩ : ByteArray) ++ t236) ++ (⟨#[98]⟩ : ByteArray))) else (none)))) else (none))) = some r := h
  clear h
  replace H := Option.bind_eq_some_iff.mp H
  obtain ⟨t236, A30, H⟩ := H
  replace H : (if 1 + t236.size ≤ 9223372036854775807 then (if (wrap64 (Int.tdiv a1 2)) ≥ a0 then ((tesseraref05_Number.f k (wrap64 ((wrap64 (Int.tdiv a1 2)) - a0))).bind fun t237 => (if 1 + t237.size ≤ 9223372036854775807 then (if (Int.tmod a1 2) = 0 then (if 1 + t237.size + 1 ≤ 9223372036854775807 then (some (((⟨#[112]⟩ : ByteArray) ++ t237) ++ (⟨#[97]⟩ : ByteArray))) else (none)) else (if 1 + t237.size + 1 ≤ 9223372036854775807 then (some (((⟨#[112]⟩ : ByteArray) ++ t237) ++ (⟨#[98]⟩ : ByteArray))) else (none))) else (none))) else (if (Int.tmod a1 2) = 0 then (if 1 + t236.size + 1 ≤ 9223372036854775807 then (some (((⟨#[100]⟩ : ByteArray) ++ t236) ++ (⟨#[97]⟩ : ByteArray))) else (none)) else (if 1 + t236.size + 1 ≤ 9223372036854775807 then (some (((⟨#[100]⟩ : ByteArray) ++ t236) ++ (⟨#[98]⟩ : ByteArray))) else (none)))) else (none)) = some r := H
  have A3 := Aside0.mk A30
  clear A30
  by_cases c4 : 1 + t236.size ≤ 9223372036854775807
  · rw [if_pos c4] at H
    have c4b0 := eq_true c4
    have c4b1 : decide (1 + t236.size ≤ 9223372036854775807) = true := decide_eq_true c4
    try have c4b2 : (9223372036854775807 < 1 + t236.size) = False := eq_false (Nat.not_lt.2 c4)
    by_cases c5 : (wrap64 (Int.tdiv a1 2)) ≥ a0
    · rw [if_pos c5] at H
      have c5b0 : decide (a0 ≤ (wrap64 (Int.tdiv a1 2))) = true := decide_eq_true c5
      clear c5
      replace H := Option.bind_eq_some_iff.mp H
      obtain ⟨t237, A60, H⟩ := H
      replace H : (if 1 + t237.size ≤ 9223372036854775807 then (if (Int.tmod a1 2) = 0 then (if 1 + t237.size + 1 ≤ 9223372036854775807 then (some (((⟨#[112]⟩ : ByteArray) ++ t237) ++ (⟨#[97]⟩ : ByteArray))) else (none)) else (if 1 + t237.size + 1 ≤ 9223372036854775807 then (some (((⟨#[112]⟩ : ByteArray) ++ t237) ++ (⟨#[98]⟩ : ByteArray))) else (none))) else (none)) = some r := H
      have A6 := Aside0.mk A60
      clear A60
      by_cases c7 : 1 + t237.size ≤ 9223372036854775807
      · rw [if_pos c7] at H
        have c7b0 := eq_true c7
        have c7b1 : decide (1 + t237.size ≤ 9223372036854775807) = true := decide_eq_true c7
        try have c7b2 : (9223372036854775807 < 1 + t237.size) = False := eq_false (Nat.not_lt.2 c7)
        by_cases c8 : (Int.tmod a1 2) = 0
        · rw [if_pos c8] at H
          have c8b0 : ((Int.tmod a1 2) == 0) = true := beq_iff_eq.mpr c8
          have c8b1 : ((Int.tmod a1 2) != 0) = false := bne_eq_false_iff_eq.mpr c8
          clear c8
          by_cases c9 : 1 + t237.size + 1 ≤ 9223372036854775807
          · rw [if_pos c9] at H
            have c9b0 := eq_true c9
            have c9b1 : decide (1 + t237.size + 1 ≤ 9223372036854775807) = true := decide_eq_true c9
            try have c9b2 : (9223372036854775807 < 1 + t237.size + 1) = False := eq_false (Nat.not_lt.2 c9)
            obtain rfl := Option.some.inj H
            go_enter Tryd.func17, Tryd.ntmps17
            go_wp2_with (first | ((with_reducible refine gate_callee (f := 37) rfl ?_); refine goesL_ (some 8) rfl rfl Tryd.func37 (by kernel_rfl) rfl #[.int .i64 (wrap64 (Int.tdiv a1 2))] rfl (by (try simp only [List.map_toArray, List.map_cons, List.map_nil]); first | done | rfl | (simp only [List.length_drop, List.length_take]; rfl)) ?_; (with_reducible refine (tesseraref05_Number.calls k (wrap64 (Int.tdiv a1 2)) t236 _ A3.out).mono ?_); rintro e w10 ⟨rfl, hb⟩; refine ⟨_, rfl, ?_⟩; have n0_ := Aside0.mk (below_step (by repeat (first | (with_reducible first | exact HB.out | apply below_alloc | apply pw_below_drewN | apply below_drew1) | exact HB.out)) hb); clear HB; have HB := n0_; clear n0_; (try clear hb); (try clear hb2); (try clear hk); (try clear hi)) | ((with_reducible refine gate_callee (f := 37) rfl ?_); refine goesL_ (some 18) rfl rfl Tryd.func37 (by kernel_rfl) rfl #[.int .i64 (wrap64 ((wrap64 (Int.tdiv a1 2)) - a0))] rfl (by (try simp only [List.map_toArray, List.map_cons, List.map_nil]); first | done | rfl | (simp only [List.length_drop, List.length_take]; rfl)) ?_; (with_reducible refine (tesseraref05_Number.calls k (wrap64 ((wrap64 (Int.tdiv a1 2)) - a0)) t237 _ A6.out).mono ?_); rintro e w11 ⟨rfl, hb⟩; refine ⟨_, rfl, ?_⟩; have n0_ := Aside0.mk (below_step (by repeat (first | (with_reducible first | exact HB.out | apply below_alloc | apply pw_below_drewN | apply below_drew1) | exact HB.out)) hb); clear HB; have HB := n0_; clear n0_; (try clear hb); (try clear hb2); (try clear hk); (try clear hi)))
            go_ret
            exact ⟨by first | rfl | (simp [errW_none, errW_some] <;> rfl) | (simp [*, errW_none, errW_some] <;> rfl), by repeat (first | (with_reducible first | exact HB.out | apply below_alloc | apply pw_below_drewN | apply below_drew1) | exact HB.out)⟩
          · rw [if_neg c9] at H
            exact absurd H (by simp)
        · rw [if_neg c8] at H
          have c8b0 : ((Int.tmod a1 2) == 0) = false := beq_eq_false_iff_ne.mpr c8
          have c8b1 : ((Int.tmod a1 2) != 0) = true := bne_iff_ne.mpr c8
          by_cases c12 : 1 + t237.size + 1 ≤ 9223372036854775807
          · rw [if_pos c12] at H
            have c12b0 := eq_true c12
            have c12b1 : decide (1 + t237.size + 1 ≤ 9223372036854775807) = true := decide_eq_true c12
            try have c12b2 : (9223372036854775807 < 1 + t237.size + 1) = False := eq_false (Nat.not_lt.2 c12)
            obtain rfl := Option.some.inj H
            go_enter Tryd.func17, Tryd.ntmps17
            go_wp2_with (first | ((with_reducible refine gate_callee (f := 37) rfl ?_); refine goesL_ (some 8) rfl rfl Tryd.func37 (by kernel_rfl) rfl #[.int .i64 (wrap64 (Int.tdiv a1 2))] rfl (by (try simp only [List.map_toArray, List.map_cons, List.map_nil]); first | done | rfl | (simp only [List.length_drop, List.length_take]; rfl)) ?_; (with_reducible refine (tesseraref05_Number.calls k (wrap64 (Int.tdiv a1 2)) t236 _ A3.out).mono ?_); rintro e w13 ⟨rfl, hb⟩; refine ⟨_, rfl, ?_⟩; have n0_ := Aside0.mk (below_step (by repeat (first | (with_reducible first | exact HB.out | apply below_alloc | apply pw_below_drewN | apply below_drew1) | exact HB.out)) hb); clear HB; have HB := n0_; clear n0_; (try clear hb); (try clear hb2); (try clear hk); (try clear hi)) | ((with_reducible refine gate_callee (f := 37) rfl ?_); refine goesL_ (some 18) rfl rfl Tryd.func37 (by kernel_rfl) rfl #[.int .i64 (wrap64 ((wrap64 (Int.tdiv a1 2)) - a0))] rfl (by (try simp only [List.map_toArray, List.map_cons, List.map_nil]); first | done | rfl | (simp only [List.length_drop, List.length_take]; rfl)) ?_; (with_reducible refine (tesseraref05_Number.calls k (wrap64 ((wrap64 (Int.tdiv a1 2)) - a0)) t237 _ A6.out).mono ?_); rintro e w14 ⟨rfl, hb⟩; refine ⟨_, rfl, ?_⟩; have n0_ := Aside0.mk (below_step (by repeat (first | (with_reducible first | exact HB.out | apply below_alloc | apply pw_below_drewN | apply below_drew1) | exact HB.out)) hb); clear HB; have HB := n0_; clear n0_; (try clear hb); (try clear hb2); (try clear hk); (try clear hi)))
            go_ret
            exact ⟨by first | rfl | (simp [errW_none, errW_some] <;> rfl) | (simp [*, errW_none, errW_some] <;> rfl), by repeat (first | (with_reducible first | exact HB.out | apply below_alloc | apply pw_below_drewN | apply below_drew1) | exact HB.out)⟩
          · rw [if_neg c12] at H
            exact absurd H (by simp)
      · rw [if_neg c7] at H
        exact absurd H (by simp)
    · rw [if_neg c5] at H
      have c5b0 : decide (a0 ≤ (wrap64 (Int.tdiv a1 2))) = false := decide_eq_false c5
      clear c5
      by_cases c15 : (Int.tmod a1 2) = 0
      · rw [if_pos c15] at H
        have c15b0 : ((Int.tmod a1 2) == 0) = true := beq_iff_eq.mpr c15
        have c15b1 : ((Int.tmod a1 2) != 0) = false := bne_eq_false_iff_eq.mpr c15
        clear c15
        by_cases c16 : 1 + t236.size + 1 ≤ 9223372036854775807
        · rw [if_pos c16] at H
          have c16b0 := eq_true c16
          have c16b1 : decide (1 + t236.size + 1 ≤ 9223372036854775807) = true := decide_eq_true c16
          try have c16b2 : (9223372036854775807 < 1 + t236.size + 1) = False := eq_false (Nat.not_lt.2 c16)
          obtain rfl := Option.some.inj H
          go_enter Tryd.func17, Tryd.ntmps17
          go_wp2_with (first | ((with_reducible refine gate_callee (f := 37) rfl ?_); refine goesL_ (some 8) rfl rfl Tryd.func37 (by kernel_rfl) rfl #[.int .i64 (wrap64 (Int.tdiv a1 2))] rfl (by (try simp only [List.map_toArray, List.map_cons, List.map_nil]); first | done | rfl | (simp only [List.length_drop, List.length_take]; rfl)) ?_; (with_reducible refine (tesseraref05_Number.calls k (wrap64 (Int.tdiv a1 2)) t236 _ A3.out).mono ?_); rintro e w17 ⟨rfl, hb⟩; refine ⟨_, rfl, ?_⟩; have n0_ := Aside0.mk (below_step (by repeat (first | (with_reducible first | exact HB.out | apply below_alloc | apply pw_below_drewN | apply below_drew1) | exact HB.out)) hb); clear HB; have HB := n0_; clear n0_; (try clear hb); (try clear hb2); (try clear hk); (try clear hi)))
          go_ret
          exact ⟨by first | rfl | (simp [errW_none, errW_some] <;> rfl) | (simp [*, errW_none, errW_some] <;> rfl), by repeat (first | (with_reducible first | exact HB.out | apply below_alloc | apply pw_below_drewN | apply below_drew1) | exact HB.out)⟩
        · rw [if_neg c16] at H
          exact absurd H (by simp)
      · rw [if_neg c15] at H
        have c15b0 : ((Int.tmod a1 2) == 0) = false := beq_eq_false_iff_ne.mpr c15
        have c15b1 : ((Int.tmod a1 2) != 0) = true := bne_iff_ne.mpr c15
        by_cases c18 : 1 + t236.size + 1 ≤ 9223372036854775807
        · rw [if_pos c18] at H
          have c18b0 := eq_true c18
          have c18b1 : decide (1 + t236.size + 1 ≤ 9223372036854775807) = true := decide_eq_true c18
          try have c18b2 : (9223372036854775807 < 1 + t236.size + 1) = False := eq_false (Nat.not_lt.2 c18)
          obtain rfl := Option.some.inj H
          go_enter Tryd.func17, Tryd.ntmps17
          go_wp2_with (first | ((with_reducible refine gate_callee (f := 37) rfl ?_); refine goesL_ (some 8) rfl rfl Tryd.func37 (by kernel_rfl) rfl #[.int .i64 (wrap64 (Int.tdiv a1 2))] rfl (by (try simp only [List.map_toArray, List.map_cons, List.map_nil]); first | done | rfl | (simp only [List.length_drop, List.length_take]; rfl)) ?_; (with_reducible refine (tesseraref05_Number.calls k (wrap64 (Int.tdiv a1 2)) t236 _ A3.out).mono ?_); rintro e w19 ⟨rfl, hb⟩; refine ⟨_, rfl, ?_⟩; have n0_ := Aside0.mk (below_step (by repeat (first | (with_reducible first | exact HB.out | apply below_alloc | apply pw_below_drewN | apply below_drew1) | exact HB.out)) hb); clear HB; have HB := n0_; clear n0_; (try clear hb); (try clear hb2); (try clear hk); (try clear hi)))
          go_ret
          exact ⟨by first | rfl | (simp [errW_none, errW_some] <;> rfl) | (simp [*, errW_none, errW_some] <;> rfl), by repeat (first | (with_reducible first | exact HB.out | apply below_alloc | apply pw_below_drewN | apply below_drew1) | exact HB.out)⟩
        · rw [if_neg c18] at H
          exact absurd H (by simp)
  · rw [if_neg c4] at H
    exact absurd H (by simp)

end Go.Proofs.YtnnondbimdmcaaaDoor.F
