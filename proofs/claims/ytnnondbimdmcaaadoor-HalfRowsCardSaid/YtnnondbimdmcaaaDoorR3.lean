/- What some functions come to, each a function of its own text; joined out of: F17, M2. No conditions but those in each theorem. -/
import Derived.Test.YtnnondbimdmcaaaDoorR1
import Derived.Test.YtnnondbimdmcaaaDoorR2
import Derived.KernelRfl
namespace Go.Proofs.YtnnondbimdmcaaaDoor.F
open Go.RowKit Go.Proofs.YtnnondbimdmcaaaDoorW.PrintWords Go.Proofs.YtnnondbimdmcaaaDoorW.PrintLast Go.Proofs.YtnnondbimdmcaaaDoorW.PrintMore
attribute [local go_sem] max2_int min2_int max_two min_two max_three min_three max_four min_four   -- for this text's walks alone
set_option linter.unusedVariables false
set_option linter.unusedSimpArgs false
set_option linter.unusedSectionVars false
open Go.Proofs.YtnnondbimdmcaaaDoor
variable [Errs]

/-! ### tesseraref05_Name: function 17 -/
def tesseraref05_Name.f (k : Nat) (a0 : Int) (a1 : Int) : Option (ByteArray) := (tesseraref05_Number.f k (wrap64 (Int.tdiv a1 2))).bind fun t236 => (if 1 + t236.size ≤ 9223372036854775807 then (if (wrap64 (Int.tdiv a1 2)) ≥ a0 then ((tesseraref05_Number.f k (wrap64 ((wrap64 (Int.tdiv a1 2)) - a0))).bind fun t237 => (if 1 + t237.size ≤ 9223372036854775807 then (if (Int.tmod a1 2) = 0 then (if 1 + t237.size + 1 ≤ 9223372036854775807 then (some (((⟨#[112]⟩ : ByteArray) ++ t237) ++ (⟨#[97]⟩ : ByteArray))) else (none)) else (if 1 + t237.size + 1 ≤ 9223372036854775807 then (some (((⟨#[112]⟩ : ByteArray) ++ t237) ++ (⟨#[98]⟩ : ByteArray))) else (none))) else (none))) else (if (Int.tmod a1 2) = 0 then (if 1 + t236.size + 1 ≤ 9223372036854775807 then (some (((⟨#[100]⟩ : ByteArray) ++ t236) ++ (⟨#[97]⟩ : ByteArray))) else (none)) else (if 1 + t236.size + 1 ≤ 9223372036854775807 then (some (((⟨#[100]⟩ : ByteArray) ++ t236) ++ (⟨#[98]⟩ : ByteArray))) else (none)))) else (none))
theorem tesseraref05_Name.mono : ∀ a0 a1 k, LeO (tesseraref05_Name.f k a0 a1) (tesseraref05_Name.f (k + 1) a0 a1) := by
  intro a0 a1 k
  unfold tesseraref05_Name.f
  repeat' first
      | (with_reducible exact tesseraref05_Number.mono _ _)
      | (with_reducible exact LeO.refl _)
      | (with_reducible exact LeO.none _)
      | (with_reducible refine LeO.ite ?_ ?_)
      | (with_reducible refine LeO.bind ?_ (fun _ => ?_))
      | exact tesseraref05_Number.mono _ _
      | exact LeO.none _
      | refine LeO.ite ?_ ?_
      | refine LeO.bind ?_ (fun _ => ?_)
set_option maxHeartbeats 8000000 in
set_option maxRecDepth 100000 in
theorem tesseraref05_Name.calls (k : Nat) (a0 : Int) (a1 : Int) (r : ByteArray) (w : World) (h : tesseraref05_Name.f k a0 a1 = some r) :
    Calls Tryd.prog 17 #[.int .i64 a0, .int .i64 a1] w fun e w' => e = .returned (.string r) ∧ Below w.heap.size w w' := by
  have HB := Aside0.mk (Below.refl w.heap.size w)
  have H : ((tesseraref05_Number.f k (wrap64 (Int.tdiv a1 2))).bind fun t236 => (if 1 + t236.size ≤ 9223372036854775807 then (if (wrap64 (Int.tdiv a1 2)) ≥ a0 then ((tesseraref05_Number.f k (wrap64 ((wrap64 (Int.tdiv a1 2)) - a0))).bind fun t237 => (if 1 + t237.size ≤ 9223372036854775807 then (if (Int.tmod a1 2) = 0 then (if 1 + t237.size + 1 ≤ 9223372036854775807 then (some (((⟨#[112]⟩ : ByteArray) ++ t237) ++ (⟨#[97]⟩ : ByteArray))) else (none)) else (if 1 + t237.size + 1 ≤ 9223372036854775807 then (some (((⟨#[112]⟩ : ByteArray) ++ t237) ++ (⟨#[98]⟩ : ByteArray))) else (none))) else (none))) else (if (Int.tmod a1 2) = 0 then (if 1 + t236.size + 1 ≤ 9223372036854775807 then (some (((⟨#[100]⟩ : ByteArray) ++ t236) ++ (⟨#[97]⟩ : ByteArray))) else (none)) else (if 1 + t236.size + 1 ≤ 9223372036854775807 then (some (((⟨#[100]⟩ : ByteArray) ++ t236) ++ (⟨#[98]⟩ : ByteArray))) else (none)))) else (none))) = some r := h
  clear h
  replace H := Option.bind_eq_some_iff.mp H
  obtain ⟨t236, A30, H⟩ := H
  replace H : (if 1 + t236.size ≤ 9223372036854775807 then (if (wrap64 (Int.tdiv a1 2)) ≥ a0 then ((tesseraref05_Number.f k (wrap64 ((wrap64 (Int.tdiv a1 2)) - a0))).bind fun t237 => (if 1 + t237.size ≤ 9223372036854775807 then (if (Int.tmod a1 2) = 0 then (if 1 + t237.size + 1 ≤ 9223372036854775807 then (some (((⟨#[112]⟩ : ByteArray) ++ t237) ++ (⟨#[97]⟩ : ByteArray))) else (none)) else (if 1 + t237.size + 1 ≤ 9223372036854775807 then (some (((⟨#[112]⟩ : ByteArray) ++ t237) ++ (⟨#[98]⟩ : ByteArray))) else (none))) else (none))) else (if (Int.tmod a1 2) = 0 then (if 1 + t236.size + 1 ≤ 9223372036854775807 then (some (((⟨#[100]⟩ : ByteArray) ++ t236) ++ (⟨#[97]⟩ : ByteArray))) else (none)) else (if 1 + t236.size + 1 ≤ 9223372036854775807 then (some (((⟨#[100]⟩ : ByteArray) ++ t236) ++ (⟨#[98]⟩ : ByteArray))) else (none)))) else (none)) = some r := H
  have A3 := Aside0.mk A30
  clear A30
  by_cases c4 : 1 + t236.size ≤ 9223372036854775807
  · rw [if_pos c4] at H
    have c4b0 := eq_true c4
    have c4b1 : decide (1 + t236.size ≤ 9223372036854775807) = true := decide_eq_true c4
    try have c4b2 : (9223372036854775807 < 1 + t236.size) = False := eq_false (Nat.not_lt.2 c4)
    by_cases c5 : (wrap64 (Int.tdiv a1 2)) ≥ a0
    · rw [if_pos c5] at H
      have c5b0 : decide (a0 ≤ (wrap64 (Int.tdiv a1 2))) = true := decide_eq_true c5
      clear c5
      replace H := Option.bind_eq_some_iff.mp H
      obtain ⟨t237, A60, H⟩ := H
      replace H : (if 1 + t237.size ≤ 9223372036854775807 then (if (Int.tmod a1 2) = 0 then (if 1 + t237.size + 1 ≤ 9223372036854775807 then (some (((⟨#[112]⟩ : ByteArray) ++ t237) ++ (⟨#[97]⟩ : ByteArray))) else (none)) else (if 1 + t237.size + 1 ≤ 9223372036854775807 then (some (((⟨#[112]⟩ : ByteArray) ++ t237) ++ (⟨#[98]⟩ : ByteArray))) else (none))) else (none)) = some r := H
      have A6 := Aside0.mk A60
      clear A60
      by_cases c7 : 1 + t237.size ≤ 9223372036854775807
      · rw [if_pos c7] at H
        have c7b0 := eq_true c7
        have c7b1 : decide (1 + t237.size ≤ 9223372036854775807) = true := decide_eq_true c7
        try have c7b2 : (9223372036854775807 < 1 + t237.size) = False := eq_false (Nat.not_lt.2 c7)
        by_cases c8 : (Int.tmod a1 2) = 0
        · rw [if_pos c8] at H
          have c8b0 : ((Int.tmod a1 2) == 0) = true := beq_iff_eq.mpr c8
          have c8b1 : ((Int.tmod a1 2) != 0) = false := bne_eq_false_iff_eq.mpr c8
          clear c8
          by_cases c9 : 1 + t237.size + 1 ≤ 9223372036854775807
          · rw [if_pos c9] at H
            have c9b0 := eq_true c9
            have c9b1 : decide (1 + t237.size + 1 ≤ 9223372036854775807) = true := decide_eq_true c9
            try have c9b2 : (9223372036854775807 < 1 + t237.size + 1) = False := eq_false (Nat.not_lt.2 c9)
            obtain rfl := Option.some.inj H
            go_enter Tryd.func17, Tryd.ntmps17
            go_wp2_with (first | ((with_reducible refine gate_callee (f := 37) rfl ?_); refine goesL_ (some 8) rfl rfl Tryd.func37 (by kernel_rfl) rfl #[.int .i64 (wrap64 (Int.tdiv a1 2))] rfl (by (try simp only [List.map_toArray, List.map_cons, List.map_nil]); first | done | rfl | (simp only [List.length_drop, List.length_take]; rfl)) ?_; (with_reducible refine (tesseraref05_Number.calls k (wrap64 (Int.tdiv a1 2)) t236 _ A3.out).mono ?_); rintro e w10 ⟨rfl, hb⟩; refine ⟨_, rfl, ?_⟩; have n0_ := Aside0.mk (below_step (by repeat (first | (with_reducible first | exact HB.out | apply below_alloc | apply pw_below_drewN | apply below_drew1) | exact HB.out)) hb); clear HB; have HB := n0_; clear n0_; (try clear hb); (try clear hb2); (try clear hk); (try clear hi)) | ((with_reducible refine gate_callee (f := 37) rfl ?_); refine goesL_ (some 18) rfl rfl Tryd.func37 (by kernel_rfl) rfl #[.int .i64 (wrap64 ((wrap64 (Int.tdiv a1 2)) - a0))] rfl (by (try simp only [List.map_toArray, List.map_cons, List.map_nil]); first | done | rfl | (simp only [List.length_drop, List.length_take]; rfl)) ?_; (with_reducible refine (tesseraref05_Number.calls k (wrap64 ((wrap64 (Int.tdiv a1 2)) - a0)) t237 _ A6.out).mono ?_); rintro e w11 ⟨rfl, hb⟩; refine ⟨_, rfl, ?_⟩; have n0_ := Aside0.mk (below_step (by repeat (first | (with_reducible first | exact HB.out | apply below_alloc | apply pw_below_drewN | apply below_drew1) | exact HB.out)) hb); clear HB; have HB := n0_; clear n0_; (try clear hb); (try clear hb2); (try clear hk); (try clear hi)))
            go_ret
            exact ⟨by first | rfl | (simp [errW_none, errW_some] <;> rfl) | (simp [*, errW_none, errW_some] <;> rfl), by repeat (first | (with_reducible first | exact HB.out | apply below_alloc | apply pw_below_drewN | apply below_drew1) | exact HB.out)⟩
          · rw [if_neg c9] at H
            exact absurd H (by simp)
        · rw [if_neg c8] at H
          have c8b0 : ((Int.tmod a1 2) == 0) = false := beq_eq_false_iff_ne.mpr c8
          have c8b1 : ((Int.tmod a1 2) != 0) = true := bne_iff_ne.mpr c8
          by_cases c12 : 1 + t237.size + 1 ≤ 9223372036854775807
          · rw [if_pos c12] at H
            have c12b0 := eq_true c12
            have c12b1 : decide (1 + t237.size + 1 ≤ 9223372036854775807) = true := decide_eq_true c12
            try have c12b2 : (9223372036854775807 < 1 + t237.size + 1) = False := eq_false (Nat.not_lt.2 c12)
            obtain rfl := Option.some.inj H
            go_enter Tryd.func17, Tryd.ntmps17
            go_wp2_with (first | ((with_reducible refine gate_callee (f := 37) rfl ?_); refine goesL_ (some 8) rfl rfl Tryd.func37 (by kernel_rfl) rfl #[.int .i64 (wrap64 (Int.tdiv a1 2))] rfl (by (try simp only [List.map_toArray, List.map_cons, List.map_nil]); first | done | rfl | (simp only [List.length_drop, List.length_take]; rfl)) ?_; (with_reducible refine (tesseraref05_Number.calls k (wrap64 (Int.tdiv a1 2)) t236 _ A3.out).mono ?_); rintro e w13 ⟨rfl, hb⟩; refine ⟨_, rfl, ?_⟩; have n0_ := Aside0.mk (below_step (by repeat (first | (with_reducible first | exact HB.out | apply below_alloc | apply pw_below_drewN | apply below_drew1) | exact HB.out)) hb); clear HB; have HB := n0_; clear n0_; (try clear hb); (try clear hb2); (try clear hk); (try clear hi)) | ((with_reducible refine gate_callee (f := 37) rfl ?_); refine goesL_ (some 18) rfl rfl Tryd.func37 (by kernel_rfl) rfl #[.int .i64 (wrap64 ((wrap64 (Int.tdiv a1 2)) - a0))] rfl (by (try simp only [List.map_toArray, List.map_cons, List.map_nil]); first | done | rfl | (simp only [List.length_drop, List.length_take]; rfl)) ?_; (with_reducible refine (tesseraref05_Number.calls k (wrap64 ((wrap64 (Int.tdiv a1 2)) - a0)) t237 _ A6.out).mono ?_); rintro e w14 ⟨rfl, hb⟩; refine ⟨_, rfl, ?_⟩; have n0_ := Aside0.mk (below_step (by repeat (first | (with_reducible first | exact HB.out | apply below_alloc | apply pw_below_drewN | apply below_drew1) | exact HB.out)) hb); clear HB; have HB := n0_; clear n0_; (try clear hb); (try clear hb2); (try clear hk); (try clear hi)))
            go_ret
            exact ⟨by first | rfl | (simp [errW_none, errW_some] <;> rfl) | (simp [*, errW_none, errW_some] <;> rfl), by repeat (first | (with_reducible first | exact HB.out | apply below_alloc | apply pw_below_drewN | apply below_drew1) | exact HB.out)⟩
          · rw [if_neg c12] at H
            exact absurd H (by simp)
      · rw [if_neg c7] at H
        exact absurd H (by simp)
    · rw [if_neg c5] at H
      have c5b0 : decide (a0 ≤ (wrap64 (Int.tdiv a1 2))) = false := decide_eq_false c5
      clear c5
      by_cases c15 : (Int.tmod a1 2) = 0
      · rw [if_pos c15] at H
        have c15b0 : ((Int.tmod a1 2) == 0) = true := beq_iff_eq.mpr c15
        have c15b1 : ((Int.tmod a1 2) != 0) = false := bne_eq_false_iff_eq.mpr c15
        clear c15
        by_cases c16 : 1 + t236.size + 1 ≤ 9223372036854775807
        · rw [if_pos c16] at H
          have c16b0 := eq_true c16
          have c16b1 : decide (1 + t236.size + 1 ≤ 9223372036854775807) = true := decide_eq_true c16
          try have c16b2 : (9223372036854775807 < 1 + t236.size + 1) = False := eq_false (Nat.not_lt.2 c16)
          obtain rfl := Option.some.inj H
          go_enter Tryd.func17, Tryd.ntmps17
          go_wp2_with (first | ((with_reducible refine gate_callee (f := 37) rfl ?_); refine goesL_ (some 8) rfl rfl Tryd.func37 (by kernel_rfl) rfl #[.int .i64 (wrap64 (Int.tdiv a1 2))] rfl (by (try simp only [List.map_toArray, List.map_cons, List.map_nil]); first | done | rfl | (simp only [List.length_drop, List.length_take]; rfl)) ?_; (with_reducible refine (tesseraref05_Number.calls k (wrap64 (Int.tdiv a1 2)) t236 _ A3.out).mono ?_); rintro e w17 ⟨rfl, hb⟩; refine ⟨_, rfl, ?_⟩; have n0_ := Aside0.mk (below_step (by repeat (first | (with_reducible first | exact HB.out | apply below_alloc | apply pw_below_drewN | apply below_drew1) | exact HB.out)) hb); clear HB; have HB := n0_; clear n0_; (try clear hb); (try clear hb2); (try clear hk); (try clear hi)))
          go_ret
          exact ⟨by first | rfl | (simp [errW_none, errW_some] <;> rfl) | (simp [*, errW_none, errW_some] <;> rfl), by repeat (first | (with_reducible first | exact HB.out | apply below_alloc | apply pw_below_drewN | apply below_drew1) | exact HB.out)⟩
        · rw [if_neg c16] at H
          exact absurd H (by simp)
      · rw [if_neg c15] at H
        have c15b0 : ((Int.tmod a1 2) == 0) = false := beq_eq_false_iff_ne.mpr c15
        have c15b1 : ((Int.tmod a1 2) != 0) = true := bne_iff_ne.mpr c15
        by_cases c18 : 1 + t236.size + 1 ≤ 9223372036854775807
        · rw [if_pos c18] at H
          have c18b0 := eq_true c18
          have c18b1 : decide (1 + t236.size + 1 ≤ 9223372036854775807) = true := decide_eq_true c18
          try have c18b2 : (9223372036854775807 < 1 + t236.size + 1) = False := eq_false (Nat.not_lt.2 c18)
          obtain rfl := Option.some.inj H
          go_enter Tryd.func17, Tryd.ntmps17
          go_wp2_with (first | ((with_reducible refine gate_callee (f := 37) rfl ?_); refine goesL_ (some 8) rfl rfl Tryd.func37 (by kernel_rfl) rfl #[.int .i64 (wrap64 (Int.tdiv a1 2))] rfl (by (try simp only [List.map_toArray, List.map_cons, List.map_nil]); first | done | rfl | (simp only [List.length_drop, List.length_take]; rfl)) ?_; (with_reducible refine (tesseraref05_Number.calls k (wrap64 (Int.tdiv a1 2)) t236 _ A3.out).mono ?_); rintro e w19 ⟨rfl, hb⟩; refine ⟨_, rfl, ?_⟩; have n0_ := Aside0.mk (below_step (by repeat (first | (with_reducible first | exact HB.out | apply below_alloc | apply pw_below_drewN | apply below_drew1) | exact HB.out)) hb); clear HB; have HB := n0_; clear n0_; (try clear hb); (try clear hb2); (try clear hk); (try clear hi)))
          go_ret
          exact ⟨by first | rfl | (simp [errW_none, errW_some] <;> rfl) | (simp [*, errW_none, errW_some] <;> rfl), by repeat (first | (with_reducible first | exact HB.out | apply below_alloc | apply pw_below_drewN | apply below_drew1) | exact HB.out)⟩
        · rw [if_neg c18] at H
          exact absurd H (by simp)
  · rw [if_neg c4] at H
    exact absurd H (by simp)

end Go.Proofs.YtnnondbimdmcaaaDoor.F

namespace Go.Proofs.YtnnondbimdmcaaaDoor.Plain
open Go.RowKit Go.Proofs.YtnnondbimdmcaaaDoorW.PrintWords Go.Proofs.YtnnondbimdmcaaaDoorW.PrintLast Go.Proofs.YtnnondbimdmcaaaDoor.F
set_option linter.unusedVariables false
abbrev nameErrs : Errs := ⟨fun _ => ⟨0, 0, none⟩⟩
attribute [local instance] nameErrs

def nm (a b h : Nat) : ByteArray := ((half_Name.f a b h).map (·.1)).getD ⟨#[]⟩
def nmOk (a b : Nat) : Bool :=
  ((List.range (2 * (a + b))).all fun h => decide (half_Name.f (a : Int) (b : Int) (h : Int) = some (nm a b h, none)) && decide (tesseraref05_Name.f 20 (a : Int) (h : Int) = some (nm a b h))) &&
  decide (((List.range (2 * (a + b))).map fun h => (nm a b h).toList).Nodup)
def legalB (a b : Nat) : Bool := decide (1 ≤ a) && decide (2 ≤ b) && decide (a + b ≤ 16)
theorem nm_all : ((List.range 17).all fun a => (List.range 17).all fun b => !(legalB a b) || nmOk a b) = true := by kernel_rfl

/-- Legal or not: what the two texts ask. -/
theorem legal_cases (a b : Int) :
    (∃ A B : Nat, a = A ∧ b = B ∧ legalB A B = true ∧ tesseraref04_Legal.f a b = some true ∧ base_Check.f a b = some none) ∨
    (tesseraref04_Legal.f a b = some false ∧ base_Check.f a b = some (some 1)) := by
  by_cases c : 1 ≤ a ∧ 2 ≤ b ∧ b ≤ 16 ∧ a + b ≤ 16
  · obtain ⟨c0, c1, c2, c3⟩ := c
    left
    refine ⟨a.toNat, b.toNat, by omega, by omega, ?_, ?_, ?_⟩
    · simp [legalB]; omega
    · unfold tesseraref04_Legal.f
      have : wrap64 (a + b) = a + b := by unfold wrap64; omega
      rw [if_pos (by omega), if_pos (by omega), if_pos (by omega), if_pos (by omega), this, decide_eq_true (by omega)]
    · unfold base_Check.f
      have : wrap64 (16 - a) = 16 - a := by unfold wrap64; omega
      rw [if_neg (by omega), if_neg (by omega), if_neg (by omega), this, if_neg (by omega)]
  · right
    constructor
    · unfold tesseraref04_Legal.f
      by_cases c0 : a ≥ 1
      · by_cases c1 : a ≤ 16
        · by_cases c2 : b ≥ 2
          · by_cases c3 : b ≤ 16
            · have : wrap64 (a + b) = a + b := by unfold wrap64; omega
              rw [if_pos c0, if_pos c1, if_pos c2, if_pos c3, this, decide_eq_false (by omega)]
            · rw [if_pos c0, if_pos c1, if_pos c2, if_neg c3]
          · rw [if_pos c0, if_pos c1, if_neg c2]
        · rw [if_pos c0, if_neg c1]
      · rw [if_neg c0]
    · unfold base_Check.f
      by_cases c0 : a < 1
      · rw [if_pos c0]
      · by_cases c1 : a ≥ 16
        · rw [if_neg c0, if_pos c1]
        · by_cases c2 : b < 2
          · rw [if_neg c0, if_neg c1, if_pos c2]
          · have : wrap64 (16 - a) = 16 - a := by unfold wrap64; omega
            rw [if_neg c0, if_neg c1, if_neg c2, this, if_pos (by omega)]

structure Names (a b : Nat) : Prop where
  la : 1 ≤ a
  lb : 2 ≤ b
  lab : a + b ≤ 16
  name : ∀ h, h < 2 * (a + b) → half_Name.f (a : Int) (b : Int) (h : Int) = some (nm a b h, none)
  ref : ∀ h, h < 2 * (a + b) → ∀ K, 20 ≤ K → tesseraref05_Name.f K (a : Int) (h : Int) = some (nm a b h)
  apart : ∀ g h, g < h → h < 2 * (a + b) → (nm a b g).toList ≠ (nm a b h).toList

theorem names_of (a b : Nat) (h : legalB a b = true) : Names a b := by
  have hl : (1 ≤ a ∧ 2 ≤ b) ∧ a + b ≤ 16 := by simpa [legalB] using h
  obtain ⟨⟨la, lb⟩, lab⟩ := hl
  have h1 := List.all_eq_true.1 nm_all a (List.mem_range.2 (by omega))
  have h2 := List.all_eq_true.1 h1 b (List.mem_range.2 (by omega))
  rw [h, Bool.not_true, Bool.false_or] at h2
  unfold nmOk at h2
  rw [Bool.and_eq_true] at h2
  obtain ⟨h3, h4⟩ := h2
  have h5 : ∀ g, g < 2 * (a + b) → _ := fun g hg => List.all_eq_true.1 h3 g (List.mem_range.2 hg)
  have hn := of_decide_eq_true h4
  refine ⟨la, lb, lab, fun g hg => ?_, fun g hg K hK => ?_, fun g h' hgh hh => ?_⟩
  · have := h5 g hg
    rw [Bool.and_eq_true] at this
    exact of_decide_eq_true this.1
  · have := h5 g hg
    rw [Bool.and_eq_true] at this
    exact at_rounds (g := fun K => tesseraref05_Name.f K (a : Int) (g : Int)) (tesseraref05_Name.mono _ _) hK (of_decide_eq_true this.2)
  · rw [List.nodup_iff_pairwise_ne, List.pairwise_iff_getElem] at hn
    have := hn g h' (by simp; omega) (by simp; omega) hgh
    simpa using this

/-- The first half from i on of a name, d halves looked at. -/
def fm (a b : Nat) (t : ByteArray) : Nat → Nat → Option Nat
  | _, 0 => none
  | i, d + 1 => if (nm a b i).toList = t.toList then some i else fm a b t (i + 1) d
def res : Option Nat → Int × Option Int
  | none => (0, some 4)
  | some h => ((h : Int), none)

theorem parse_from {a b : Nat} (N : Names a b) (t : ByteArray) : ∀ (d i K : Nat), i + d = 2 * (a + b) → d < K →
    half_Parse.l0 K (a : Int) (b : Int) t ((2 * (a + b) : Nat) : Int) (i : Int) = some (res (fm a b t i d)) := by
  intro d
  induction d with
  | zero =>
    intro i K hi hK
    obtain ⟨K, rfl⟩ : ∃ m, K = m + 1 := ⟨K - 1, by omega⟩
    rw [half_Parse.l0, if_neg (by omega)]; rfl
  | succ d ih =>
    intro i K hi hK
    obtain ⟨K, rfl⟩ : ∃ m, K = m + 1 := ⟨K - 1, by omega⟩
    have lab := N.lab
    rw [half_Parse.l0, if_pos (by omega), N.name i (by omega), Option.bind_some]
    have hw : wrap64 ((i : Int) + 1) = ((i + 1 : Nat) : Int) := by unfold wrap64; omega
    rw [fm]
    by_cases e : (nm a b i).toList = t.toList
    · rw [if_pos e, if_pos e]; rfl
    · rw [if_neg e, if_neg e, hw]
      exact ih (i + 1) K (by omega) (by omega)

theorem parse_all {a b : Nat} (N : Names a b) (hc : base_Check.f (a : Int) (b : Int) = some none) (t : ByteArray) (K : Nat) (hK : 2 * (a + b) < K) :
    half_Parse.f K (a : Int) (b : Int) t = some (res (fm a b t 0 (2 * (a + b)))) := by
  unfold half_Parse.f
  have lab := N.lab
  have hw : wrap64 (2 * wrap64 ((a : Int) + (b : Int))) = ((2 * (a + b) : Nat) : Int) := by unfold wrap64; omega
  rw [hc, Option.bind_some, if_pos (show (none : Option Int).isNone = true by rfl), hw]
  exact parse_from N t _ 0 K (by omega) hK

theorem fm_own {a b : Nat} (N : Names a b) (h : Nat) (hh : h < 2 * (a + b)) : ∀ (d i : Nat), i + d = 2 * (a + b) → i ≤ h → fm a b (nm a b h) i d = some h := by
  intro d
  induction d with
  | zero => intro i hi hle; omega
  | succ d ih =>
    intro i hi hle
    rw [fm]
    rcases Nat.lt_or_ge i h with hlt | hge
    · rw [if_neg (N.apart i h hlt hh)]
      exact ih (i + 1) (by omega) (by omega)
    · have e : i = h := by omega
      subst e
      rw [if_pos rfl]
end Go.Proofs.YtnnondbimdmcaaaDoor.Plain
