/- What some functions come to, each a function of its own text; joined out of: F13, F8, F9, F4, D4, PureDamageParts, SenDamageParts. No conditions but those in each theorem. -/
import Derived.Test.YtndnedjclbigiaaDoorO1
import Derived.Test.YtndnedjclbigiaaDoorO3
import Derived.Test.YtndnedjclbigiaaDoorO6
import Derived.Test.YtndnedjclbigiaaDoorO11
import Derived.Test.YtndnedjclbigiaaDoorRows
import Derived.WalkKit
import Derived.ProofKit
import Derived.OpenShut
import Derived.ShutString
import Derived.ChangeOld
import Derived.Below
import Derived.SizedLaws
import Derived.LaidLaws
import Derived.LaidMore
import Derived.LaidHandle
import Derived.LaidOnce
import Derived.Stop.LaidErr
import Derived.SevenTiedAt
import Derived.JoinedOf
import Derived.RowKit
import Derived.RowKitTokens
import Derived.ChangeVars
import Derived.ChangeSame
import Derived.Lib.SmallJoins
namespace Go.Proofs.YtndnedjclbigiaaDoor.F
open Go.RowKit Go.Proofs.YtndnedjclbigiaaDoorW.PrintWords Go.Proofs.YtndnedjclbigiaaDoorW.PrintLast Go.Proofs.YtndnedjclbigiaaDoorW.PrintMore
attribute [local go_sem] max2_int min2_int max_two min_two max_three min_three max_four min_four   -- for this text's walks alone
set_option linter.unusedVariables false
set_option linter.unusedSimpArgs false
set_option linter.unusedSectionVars false
open Go.Proofs.YtndnedjclbigiaaDoor
variable [Errs]

/-! ### tesseranum_SameInts: function 13 -/
def tesseranum_SameInts.l0 : Nat → List Int → List Int → Int → Int → Option (Bool)
  | 0, _, _, _, _ => none
  | k + 1, x0, x1, x12, x13 => if x13 < x12 then (if 0 ≤ x13 then (if x13 < (x0.length : Int) then (if x13 < (x1.length : Int) then (if (rd x0 x13) = (rd x1 x13) then (tesseranum_SameInts.l0 k x0 x1 x12 (wrap64 (x13 + 1))) else (some false)) else (none)) else (none)) else (none)) else (some true)
def tesseranum_SameInts.f (k : Nat) (l0 : List Int) (l1 : List Int) : Option (Bool) := if (l0.length : Int) = (l1.length : Int) then (tesseranum_SameInts.l0 k l0 l1 (l0.length : Int) 0) else (some false)
theorem tesseranum_SameInts.mono_l : ∀ k, (∀ y0 y1 y2 y3, LeO (tesseranum_SameInts.l0 k y0 y1 y2 y3) (tesseranum_SameInts.l0 (k + 1) y0 y1 y2 y3))
  | 0 => fun _ _ _ _ r h => by simp [tesseranum_SameInts.l0] at h
  | k + 1 => by
    have ih0 := tesseranum_SameInts.mono_l k
    · intro y0 y1 y2 y3
      unfold tesseranum_SameInts.l0
      repeat' first
      | (with_reducible exact ih0 _ _ _ _)
      | (with_reducible exact LeO.refl _)
      | (with_reducible exact LeO.none _)
      | (with_reducible refine LeO.ite ?_ ?_)
      | (with_reducible refine LeO.bind ?_ (fun _ => ?_))
      | exact ih0 _ _ _ _
      | exact LeO.none _
      | refine LeO.ite ?_ ?_
      | refine LeO.bind ?_ (fun _ => ?_)
theorem tesseranum_SameInts.mono : ∀ a0 a1 k, LeO (tesseranum_SameInts.f k a0 a1) (tesseranum_SameInts.f (k + 1) a0 a1) := by
  intro a0 a1 k
  have ih0 := tesseranum_SameInts.mono_l k
  unfold tesseranum_SameInts.f
  repeat' first
      | (with_reducible exact ih0 _ _ _ _)
      | (with_reducible exact LeO.refl _)
      | (with_reducible exact LeO.none _)
      | (with_reducible refine LeO.ite ?_ ?_)
      | (with_reducible refine LeO.bind ?_ (fun _ => ?_))
      | exact ih0 _ _ _ _
      | exact LeO.none _
      | refine LeO.ite ?_ ?_
      | refine LeO.bind ?_ (fun _ => ?_)
set_option maxHeartbeats 8000000 in
set_option maxRecDepth 100000 in
theorem tesseranum_SameInts.calls (k : Nat) (A0 : Option Addr) (c0 : Nat) (l0 : List Int) (A1 : Option Addr) (c1 : Nat) (l1 : List Int) (r : Bool) (w : World) (hr0 : Kd.C (Kd.int .i64) w A0 l0.length l0) (hc0 : l0.length ≤ c0) (hr1 : Kd.C (Kd.int .i64) w A1 l1.length l1) (hc1 : l1.length ≤ c1) (h : tesseranum_SameInts.f k l0 l1 = some r) :
    Calls Tryd.prog 13 #[.slice A0 l0.length c0, .slice A1 l1.length c1] w fun e w' => e = .returned (.bool r) ∧ Drawn0 w w' := by
  have HR0 := Aside0.mk hr0
  have HC0 := Aside0.mk hc0
  clear hr0 hc0
  have HR1 := Aside0.mk hr1
  have HC1 := Aside0.mk hc1
  clear hr1 hc1
  have H : (if (l0.length : Int) = (l1.length : Int) then (tesseranum_SameInts.l0 k l0 l1 (l0.length : Int) 0) else (some false)) = some r := h
  clear h
  by_cases c3 : (l0.length : Int) = (l1.length : Int)
  · rw [if_pos c3] at H
    have c3b0 : ((l0.length : Int) == (l1.length : Int)) = true := beq_iff_eq.mpr c3
    have c3b1 : ((l0.length : Int) != (l1.length : Int)) = false := bne_eq_false_iff_eq.mpr c3
    have c3b2 : (l0.length == l1.length) = true := by first | simpa using c3 | (simp at c3 ⊢; omega)
    clear c3
    have H' := Aside0.mk H
    clear H
    go_enter Tryd.func13, Tryd.ntmps13
    go_wp2
    repeat (go_quiet (fail); try go_wp2)
    go_loopg [13] k (fun kq v13 w' => ∃ (x13_1 : Int), v13 = .int .i64 x13_1 ∧ Aside0 (tesseranum_SameInts.l0 kq l0 l1 (l0.length : Int) x13_1 = some r) ∧ Aside0 (kq ≤ k) ∧ Drawn0 w w')
    case atStart => exact ⟨(0), (by first | rfl | (simp; done) | (simp [*]; done)), H', ⟨Nat.le_refl _⟩, by repeat (first | exact Drawn0.refl _ | apply Drawn0.step)⟩
    case round =>
      clear H'
      try clear c1
      try clear p2
      try clear c3
      try clear c3b0
      try clear c3b1
      try clear c3b2
      obtain ⟨x13_1, rfl, HA, HK1, ⟨m1, rfl⟩⟩ := hrel
      cases gk with
      | zero => exact absurd HA.out (by simp [tesseranum_SameInts.l0])
      | succ k1 =>
        have H := HA.out
        clear HA
        first | rw [tesseranum_SameInts.l0] at H | simp only [tesseranum_SameInts.l0] at H
        by_cases c4 : x13_1 < (l0.length : Int)
        · rw [if_pos c4] at H
          have c4b0 : decide (x13_1 < (l0.length : Int)) = true := decide_eq_true c4
          clear c4
          by_cases c5 : 0 ≤ x13_1
          · rw [if_pos c5] at H
            have c5b0 : decide (0 ≤ x13_1) = true := decide_eq_true c5
            clear c5
            by_cases c6 : x13_1 < (l0.length : Int)
            · rw [if_pos c6] at H
              have c6b0 : decide (x13_1 < (l0.length : Int)) = true := decide_eq_true c6
              clear c6
              by_cases c7 : x13_1 < (l1.length : Int)
              · rw [if_pos c7] at H
                have c7b0 : decide (x13_1 < (l1.length : Int)) = true := decide_eq_true c7
                clear c7
                by_cases c8 : (rd l0 x13_1) = (rd l1 x13_1)
                · rw [if_pos c8] at H
                  have c8b0 : ((rd l0 x13_1) == (rd l1 x13_1)) = true := beq_iff_eq.mpr c8
                  have c8b1 : ((rd l0 x13_1) != (rd l1 x13_1)) = false := bne_eq_false_iff_eq.mpr c8
                  clear c8
                  have H' := Aside0.mk H
                  clear H
                  have p251 : 0 ≤ (x13_1 : Int) := of_decide_eq_true (by first | (with_reducible assumption) | assumption)
                  have q251 : x13_1 < (l0.length : Int) := of_decide_eq_true (by first | (with_reducible assumption) | assumption)
                  obtain ⟨ad251, e251, hx251_0⟩ := Kd.at_int HR0.out x13_1 p251 q251
                  cases e251
                  replace p251 := eq_true p251
                  replace q251 := eq_true q251
                  have p252 : 0 ≤ (x13_1 : Int) := of_decide_eq_true (by first | (with_reducible assumption) | assumption)
                  have q252 : x13_1 < (l1.length : Int) := of_decide_eq_true (by first | (with_reducible assumption) | assumption)
                  obtain ⟨ad252, e252, hx252_0⟩ := Kd.at_int HR1.out x13_1 p252 q252
                  cases e252
                  replace p252 := eq_true p252
                  replace q252 := eq_true q252
                  go_wp2
                  repeat (go_quiet (fail); try go_wp2)
                  go_roundg k1
                  case measure => have := HK1.out; omega
                  case rel => exact ⟨(wrap64 (x13_1 + 1)), (by first | rfl | (simp; done) | (simp [*]; done)), H', ⟨by have := HK1.out; omega⟩, by repeat (first | exact Drawn0.refl _ | apply Drawn0.step)⟩
                · rw [if_neg c8] at H
                  have c8b0 : ((rd l0 x13_1) == (rd l1 x13_1)) = false := beq_eq_false_iff_ne.mpr c8
                  have c8b1 : ((rd l0 x13_1) != (rd l1 x13_1)) = true := bne_iff_ne.mpr c8
                  obtain rfl := Option.some.inj H
                  have p251 : 0 ≤ (x13_1 : Int) := of_decide_eq_true (by first | (with_reducible assumption) | assumption)
                  have q251 : x13_1 < (l0.length : Int) := of_decide_eq_true (by first | (with_reducible assumption) | assumption)
                  obtain ⟨ad251, e251, hx251_0⟩ := Kd.at_int HR0.out x13_1 p251 q251
                  cases e251
                  replace p251 := eq_true p251
                  replace q251 := eq_true q251
                  have p252 : 0 ≤ (x13_1 : Int) := of_decide_eq_true (by first | (with_reducible assumption) | assumption)
                  have q252 : x13_1 < (l1.length : Int) := of_decide_eq_true (by first | (with_reducible assumption) | assumption)
                  obtain ⟨ad252, e252, hx252_0⟩ := Kd.at_int HR1.out x13_1 p252 q252
                  cases e252
                  replace p252 := eq_true p252
                  replace q252 := eq_true q252
                  go_wp2
                  repeat (go_quiet (fail); try go_wp2)
                  go_ret
                  exact ⟨by first | rfl | (simp; done) | (simp [*]; done), by repeat (first | exact Drawn0.refl _ | apply Drawn0.step)⟩
              · rw [if_neg c7] at H
                exact absurd H (by simp)
            · rw [if_neg c6] at H
              exact absurd H (by simp)
          · rw [if_neg c5] at H
            exact absurd H (by simp)
        · rw [if_neg c4] at H
          have c4b0 : decide (x13_1 < (l0.length : Int)) = false := decide_eq_false c4
          clear c4
          obtain rfl := Option.some.inj H
          go_wp2
          repeat (go_quiet (fail); try go_wp2)
          go_ret
          exact ⟨by first | rfl | (simp; done) | (simp [*]; done), by repeat (first | exact Drawn0.refl _ | apply Drawn0.step)⟩
  · rw [if_neg c3] at H
    have c3b0 : ((l0.length : Int) == (l1.length : Int)) = false := beq_eq_false_iff_ne.mpr c3
    have c3b1 : ((l0.length : Int) != (l1.length : Int)) = true := bne_iff_ne.mpr c3
    have c3b2 : (l0.length == l1.length) = false := by first | simpa using c3 | (simp at c3 ⊢; omega)
    obtain rfl := Option.some.inj H
    go_enter Tryd.func13, Tryd.ntmps13
    go_wp2
    repeat (go_quiet (fail); try go_wp2)
    go_ret
    exact ⟨by first | rfl | (simp; done) | (simp [*]; done), by repeat (first | exact Drawn0.refl _ | apply Drawn0.step)⟩

end Go.Proofs.YtndnedjclbigiaaDoor.F

namespace Go.Proofs.YtndnedjclbigiaaDoor.F
open Go.RowKit Go.Proofs.YtndnedjclbigiaaDoorW.PrintWords Go.Proofs.YtndnedjclbigiaaDoorW.PrintLast Go.Proofs.YtndnedjclbigiaaDoorW.PrintMore
attribute [local go_sem] max2_int min2_int max_two min_two max_three min_three max_four min_four   -- for this text's walks alone
set_option linter.unusedVariables false
set_option linter.unusedSimpArgs false
set_option linter.unusedSectionVars false
open Go.Proofs.YtndnedjclbigiaaDoor
variable [Errs]

/-! ### tesseraref08_Good: function 8 -/
def tesseraref08_Good.l0 : Nat → Int → Int → List Int → List Int → Int → Int → Option (Bool)
  | 0, _, _, _, _, _, _ => none
  | k + 1, x0, x1, x2, x9, x10, x11 => if x11 < x10 then (if 0 ≤ x11 then (if x11 < (x9.length : Int) then (if (rd x9 x11) < 0 then (some false) else (if (rd x9 x11) ≥ (wrap64 (2 * (wrap64 (x0 + x1)))) then (some false) else (if x11 > 0 then (if 0 ≤ (wrap64 (x11 - 1)) then (if (wrap64 (x11 - 1)) < (x2.length : Int) then (if (rd x2 (wrap64 (x11 - 1))) ≥ (rd x9 x11) then (some false) else (tesseraref08_Good.l0 k x0 x1 x2 x9 x10 (wrap64 (x11 + 1)))) else (none)) else (none)) else (tesseraref08_Good.l0 k x0 x1 x2 x9 x10 (wrap64 (x11 + 1)))))) else (none)) else (none)) else (some true)
def tesseraref08_Good.f (k : Nat) (a0 : Int) (a1 : Int) (l2 : List Int) : Option (Bool) := tesseraref08_Good.l0 k a0 a1 l2 l2 (l2.length : Int) 0
theorem tesseraref08_Good.mono_l : ∀ k, (∀ y0 y1 y2 y3 y4 y5, LeO (tesseraref08_Good.l0 k y0 y1 y2 y3 y4 y5) (tesseraref08_Good.l0 (k + 1) y0 y1 y2 y3 y4 y5))
  | 0 => fun _ _ _ _ _ _ r h => by simp [tesseraref08_Good.l0] at h
  | k + 1 => by
    have ih0 := tesseraref08_Good.mono_l k
    · intro y0 y1 y2 y3 y4 y5
      unfold tesseraref08_Good.l0
      repeat' first
      | (with_reducible exact ih0 _ _ _ _ _ _)
      | (with_reducible exact LeO.refl _)
      | (with_reducible exact LeO.none _)
      | (with_reducible refine LeO.ite ?_ ?_)
      | (with_reducible refine LeO.bind ?_ (fun _ => ?_))
      | exact ih0 _ _ _ _ _ _
      | exact LeO.none _
      | refine LeO.ite ?_ ?_
      | refine LeO.bind ?_ (fun _ => ?_)
theorem tesseraref08_Good.mono : ∀ a0 a1 a2 k, LeO (tesseraref08_Good.f k a0 a1 a2) (tesseraref08_Good.f (k + 1) a0 a1 a2) := by
  intro a0 a1 a2 k
  have ih0 := tesseraref08_Good.mono_l k
  unfold tesseraref08_Good.f
  repeat' first
      | (with_reducible exact ih0 _ _ _ _ _ _)
      | (with_reducible exact LeO.refl _)
      | (with_reducible exact LeO.none _)
      | (with_reducible refine LeO.ite ?_ ?_)
      | (with_reducible refine LeO.bind ?_ (fun _ => ?_))
      | exact ih0 _ _ _ _ _ _
      | exact LeO.none _
      | refine LeO.ite ?_ ?_
      | refine LeO.bind ?_ (fun _ => ?_)
set_option maxHeartbeats 8000000 in
set_option maxRecDepth 100000 in
theorem tesseraref08_Good.calls (k : Nat) (a0 : Int) (a1 : Int) (A2 : Option Addr) (c2 : Nat) (l2 : List Int) (r : Bool) (w : World) (hr2 : Kd.C (Kd.int .i64) w A2 l2.length l2) (hc2 : l2.length ≤ c2) (h : tesseraref08_Good.f k a0 a1 l2 = some r) :
    Calls Tryd.prog 8 #[.int .i64 a0, .int .i64 a1, .slice A2 l2.length c2] w fun e w' => e = .returned (.bool r) ∧ Drawn0 w w' := by
  have HR2 := Aside0.mk hr2
  have HC2 := Aside0.mk hc2
  clear hr2 hc2
  have H : (tesseraref08_Good.l0 k a0 a1 l2 l2 (l2.length : Int) 0) = some r := h
  clear h
  have H' := Aside0.mk H
  clear H
  go_enter Tryd.func8, Tryd.ntmps8
  go_wp2
  go_loopg [11] k (fun kq v11 w' => ∃ (x11_1 : Int), v11 = .int .i64 x11_1 ∧ Aside0 (tesseraref08_Good.l0 kq a0 a1 l2 l2 (l2.length : Int) x11_1 = some r) ∧ Aside0 (kq ≤ k) ∧ Drawn0 w w')
  case atStart => exact ⟨(0), (by first | rfl | (simp; done) | (simp [*]; done)), H', ⟨Nat.le_refl _⟩, by repeat (first | exact Drawn0.refl _ | apply Drawn0.step)⟩
  case round =>
    clear H'
    try clear c2
    try clear p2
    obtain ⟨x11_1, rfl, HA, HK1, ⟨m1, rfl⟩⟩ := hrel
    cases gk with
    | zero => exact absurd HA.out (by simp [tesseraref08_Good.l0])
    | succ k1 =>
      have H := HA.out
      clear HA
      first | rw [tesseraref08_Good.l0] at H | simp only [tesseraref08_Good.l0] at H
      by_cases c4 : x11_1 < (l2.length : Int)
      · rw [if_pos c4] at H
        have c4b0 : decide (x11_1 < (l2.length : Int)) = true := decide_eq_true c4
        clear c4
        by_cases c5 : 0 ≤ x11_1
        · rw [if_pos c5] at H
          have c5b0 : decide (0 ≤ x11_1) = true := decide_eq_true c5
          clear c5
          by_cases c6 : x11_1 < (l2.length : Int)
          · rw [if_pos c6] at H
            have c6b0 : decide (x11_1 < (l2.length : Int)) = true := decide_eq_true c6
            clear c6
            by_cases c7 : (rd l2 x11_1) < 0
            · rw [if_pos c7] at H
              have c7b0 : decide ((rd l2 x11_1) < 0) = true := decide_eq_true c7
              clear c7
              obtain rfl := Option.some.inj H
              have p231 : 0 ≤ (x11_1 : Int) := of_decide_eq_true (by first | (with_reducible assumption) | assumption)
              have q231 : x11_1 < (l2.length : Int) := of_decide_eq_true (by first | (with_reducible assumption) | assumption)
              obtain ⟨ad231, e231, hx231_0⟩ := Kd.at_int HR2.out x11_1 p231 q231
              cases e231
              replace p231 := eq_true p231
              replace q231 := eq_true q231
              go_wp2
              go_ret
              exact ⟨by first | rfl | (simp; done) | (simp [*]; done), by repeat (first | exact Drawn0.refl _ | apply Drawn0.step)⟩
            · rw [if_neg c7] at H
              have c7b0 : decide ((rd l2 x11_1) < 0) = false := decide_eq_false c7
              clear c7
              by_cases c8 : (rd l2 x11_1) ≥ (wrap64 (2 * (wrap64 (a0 + a1))))
              · rw [if_pos c8] at H
                have c8b0 : decide ((wrap64 (2 * (wrap64 (a0 + a1)))) ≤ (rd l2 x11_1)) = true := decide_eq_true c8
                clear c8
                obtain rfl := Option.some.inj H
                have p231 : 0 ≤ (x11_1 : Int) := of_decide_eq_true (by first | (with_reducible assumption) | assumption)
                have q231 : x11_1 < (l2.length : Int) := of_decide_eq_true (by first | (with_reducible assumption) | assumption)
                obtain ⟨ad231, e231, hx231_0⟩ := Kd.at_int HR2.out x11_1 p231 q231
                cases e231
                replace p231 := eq_true p231
                replace q231 := eq_true q231
                go_wp2
                go_ret
                exact ⟨by first | rfl | (simp; done) | (simp [*]; done), by repeat (first | exact Drawn0.refl _ | apply Drawn0.step)⟩
              · rw [if_neg c8] at H
                have c8b0 : decide ((wrap64 (2 * (wrap64 (a0 + a1)))) ≤ (rd l2 x11_1)) = false := decide_eq_false c8
                clear c8
                by_cases c9 : x11_1 > 0
                · rw [if_pos c9] at H
                  have c9b0 : decide (0 < x11_1) = true := decide_eq_true c9
                  clear c9
                  obtain ⟨ji10, hji10⟩ : ∃ j_ : Int, (wrap64 (x11_1 - 1)) = j_ := ⟨_, rfl⟩
                  replace H : (if 0 ≤ (ji10) then (if (ji10) < (l2.length : Int) then (if (rd l2 (ji10)) ≥ (rd l2 x11_1) then (some false) else (tesseraref08_Good.l0 k1 a0 a1 l2 l2 (l2.length : Int) (wrap64 (x11_1 + 1)))) else (none)) else (none)) = some r := by first | (rw [hji10] at H; exact H) | (simp only [hji10] at H ⊢; exact H)
                  have hji10w : (IntKind.i64.wrap (x11_1 - 1)) = ji10 := (i64_w _).trans hji10
                  by_cases c11 : 0 ≤ (ji10)
                  · rw [if_pos c11] at H
                    have c11b0 : decide (0 ≤ (ji10)) = true := decide_eq_true c11
                    clear c11
                    by_cases c12 : (ji10) < (l2.length : Int)
                    · rw [if_pos c12] at H
                      have c12b0 : decide ((ji10) < (l2.length : Int)) = true := decide_eq_true c12
                      clear c12
                      by_cases c13 : (rd l2 (ji10)) ≥ (rd l2 x11_1)
                      · rw [if_pos c13] at H
                        have c13b0 : decide ((rd l2 x11_1) ≤ (rd l2 (ji10))) = true := decide_eq_true c13
                        clear c13
                        obtain rfl := Option.some.inj H
                        have p231 : 0 ≤ (x11_1 : Int) := of_decide_eq_true (by first | (with_reducible assumption) | assumption)
                        have q231 : x11_1 < (l2.length : Int) := of_decide_eq_true (by first | (with_reducible assumption) | assumption)
                        obtain ⟨ad231, e231, hx231_0⟩ := Kd.at_int HR2.out x11_1 p231 q231
                        cases e231
                        replace p231 := eq_true p231
                        replace q231 := eq_true q231
                        have p232 : 0 ≤ ((ji10) : Int) := of_decide_eq_true (by first | (with_reducible assumption) | assumption)
                        have q232 : (ji10) < (l2.length : Int) := of_decide_eq_true (by first | (with_reducible assumption) | assumption)
                        obtain ⟨ad232, e232, hx232_0⟩ := Kd.at_int HR2.out (ji10) p232 q232
                        obtain rfl : ad231 = ad232 := (by injection e232)
                        replace p232 := eq_true p232
                        replace q232 := eq_true q232
                        go_wp2
                        go_ret
                        exact ⟨by first | rfl | (simp; done) | (simp only [← hji10] <;> (first | rfl | simp)) | (simp [*]; done), by repeat (first | exact Drawn0.refl _ | apply Drawn0.step)⟩
                      · rw [if_neg c13] at H
                        have c13b0 : decide ((rd l2 x11_1) ≤ (rd l2 (ji10))) = false := decide_eq_false c13
                        clear c13
                        have H' := Aside0.mk H
                        clear H
                        have p231 : 0 ≤ (x11_1 : Int) := of_decide_eq_true (by first | (with_reducible assumption) | assumption)
                        have q231 : x11_1 < (l2.length : Int) := of_decide_eq_true (by first | (with_reducible assumption) | assumption)
                        obtain ⟨ad231, e231, hx231_0⟩ := Kd.at_int HR2.out x11_1 p231 q231
                        cases e231
                        replace p231 := eq_true p231
                        replace q231 := eq_true q231
                        have p232 : 0 ≤ ((ji10) : Int) := of_decide_eq_true (by first | (with_reducible assumption) | assumption)
                        have q232 : (ji10) < (l2.length : Int) := of_decide_eq_true (by first | (with_reducible assumption) | assumption)
                        obtain ⟨ad232, e232, hx232_0⟩ := Kd.at_int HR2.out (ji10) p232 q232
                        obtain rfl : ad231 = ad232 := (by injection e232)
                        replace p232 := eq_true p232
                        replace q232 := eq_true q232
                        go_wp2
                        go_roundg k1
                        case measure => have := HK1.out; omega
                        case rel => exact ⟨(wrap64 (x11_1 + 1)), (by first | rfl | (simp; done) | (simp [*]; done)), H', ⟨by have := HK1.out; omega⟩, by repeat (first | exact Drawn0.refl _ | apply Drawn0.step)⟩
                    · rw [if_neg c12] at H
                      exact absurd H (by simp)
                  · rw [if_neg c11] at H
                    exact absurd H (by simp)
                · rw [if_neg c9] at H
                  have c9b0 : decide (0 < x11_1) = false := decide_eq_false c9
                  clear c9
                  have H' := Aside0.mk H
                  clear H
                  have p231 : 0 ≤ (x11_1 : Int) := of_decide_eq_true (by first | (with_reducible assumption) | assumption)
                  have q231 : x11_1 < (l2.length : Int) := of_decide_eq_true (by first | (with_reducible assumption) | assumption)
                  obtain ⟨ad231, e231, hx231_0⟩ := Kd.at_int HR2.out x11_1 p231 q231
                  cases e231
                  replace p231 := eq_true p231
                  replace q231 := eq_true q231
                  go_wp2
                  go_roundg k1
                  case measure => have := HK1.out; omega
                  case rel => exact ⟨(wrap64 (x11_1 + 1)), (by first | rfl | (simp; done) | (simp [*]; done)), H', ⟨by have := HK1.out; omega⟩, by repeat (first | exact Drawn0.refl _ | apply Drawn0.step)⟩
          · rw [if_neg c6] at H
            exact absurd H (by simp)
        · rw [if_neg c5] at H
          exact absurd H (by simp)
      · rw [if_neg c4] at H
        have c4b0 : decide (x11_1 < (l2.length : Int)) = false := decide_eq_false c4
        clear c4
        obtain rfl := Option.some.inj H
        go_wp2
        go_ret
        exact ⟨by first | rfl | (simp; done) | (simp [*]; done), by repeat (first | exact Drawn0.refl _ | apply Drawn0.step)⟩

end Go.Proofs.YtndnedjclbigiaaDoor.F

namespace Go.Proofs.YtndnedjclbigiaaDoor.F
open Go.RowKit Go.Proofs.YtndnedjclbigiaaDoorW.PrintWords Go.Proofs.YtndnedjclbigiaaDoorW.PrintLast Go.Proofs.YtndnedjclbigiaaDoorW.PrintMore
attribute [local go_sem] max2_int min2_int max_two min_two max_three min_three max_four min_four   -- for this text's walks alone
set_option linter.unusedVariables false
set_option linter.unusedSimpArgs false
set_option linter.unusedSectionVars false
open Go.Proofs.YtndnedjclbigiaaDoor
variable [Errs]

/-! ### tesseraref08_In: function 9 -/
def tesseraref08_In.l0 : Nat → Int → List Int → Int → Int → Option (Bool)
  | 0, _, _, _, _ => none
  | k + 1, x1, x7, x8, x9 => if x9 < x8 then (if 0 ≤ x9 then (if x9 < (x7.length : Int) then (if (rd x7 x9) = x1 then (some true) else (tesseraref08_In.l0 k x1 x7 x8 (wrap64 (x9 + 1)))) else (none)) else (none)) else (some false)
def tesseraref08_In.f (k : Nat) (l0 : List Int) (a1 : Int) : Option (Bool) := tesseraref08_In.l0 k a1 l0 (l0.length : Int) 0
theorem tesseraref08_In.mono_l : ∀ k, (∀ y0 y1 y2 y3, LeO (tesseraref08_In.l0 k y0 y1 y2 y3) (tesseraref08_In.l0 (k + 1) y0 y1 y2 y3))
  | 0 => fun _ _ _ _ r h => by simp [tesseraref08_In.l0] at h
  | k + 1 => by
    have ih0 := tesseraref08_In.mono_l k
    · intro y0 y1 y2 y3
      unfold tesseraref08_In.l0
      repeat' first
      | (with_reducible exact ih0 _ _ _ _)
      | (with_reducible exact LeO.refl _)
      | (with_reducible exact LeO.none _)
      | (with_reducible refine LeO.ite ?_ ?_)
      | (with_reducible refine LeO.bind ?_ (fun _ => ?_))
      | exact ih0 _ _ _ _
      | exact LeO.none _
      | refine LeO.ite ?_ ?_
      | refine LeO.bind ?_ (fun _ => ?_)
theorem tesseraref08_In.mono : ∀ a0 a1 k, LeO (tesseraref08_In.f k a0 a1) (tesseraref08_In.f (k + 1) a0 a1) := by
  intro a0 a1 k
  have ih0 := tesseraref08_In.mono_l k
  unfold tesseraref08_In.f
  repeat' first
      | (with_reducible exact ih0 _ _ _ _)
      | (with_reducible exact LeO.refl _)
      | (with_reducible exact LeO.none _)
      | (with_reducible refine LeO.ite ?_ ?_)
      | (with_reducible refine LeO.bind ?_ (fun _ => ?_))
      | exact ih0 _ _ _ _
      | exact LeO.none _
      | refine LeO.ite ?_ ?_
      | refine LeO.bind ?_ (fun _ => ?_)
set_option maxHeartbeats 8000000 in
set_option maxRecDepth 100000 in
theorem tesseraref08_In.calls (k : Nat) (A0 : Option Addr) (c0 : Nat) (l0 : List Int) (a1 : Int) (r : Bool) (w : World) (hr0 : Kd.C (Kd.int .i64) w A0 l0.length l0) (hc0 : l0.length ≤ c0) (h : tesseraref08_In.f k l0 a1 = some r) :
    Calls Tryd.prog 9 #[.slice A0 l0.length c0, .int .i64 a1] w fun e w' => e = .returned (.bool r) ∧ Drawn0 w w' := by
  have HR0 := Aside0.mk hr0
  have HC0 := Aside0.mk hc0
  clear hr0 hc0
  have H : (tesseraref08_In.l0 k a1 l0 (l0.length : Int) 0) = some r := h
  clear h
  have H' := Aside0.mk H
  clear H
  go_enter Tryd.func9, Tryd.ntmps9
  go_wp2
  go_loopg [9] k (fun kq v9 w' => ∃ (x9_1 : Int), v9 = .int .i64 x9_1 ∧ Aside0 (tesseraref08_In.l0 kq a1 l0 (l0.length : Int) x9_1 = some r) ∧ Aside0 (kq ≤ k) ∧ Drawn0 w w')
  case atStart => exact ⟨(0), (by first | rfl | (simp; done) | (simp [*]; done)), H', ⟨Nat.le_refl _⟩, by repeat (first | exact Drawn0.refl _ | apply Drawn0.step)⟩
  case round =>
    clear H'
    try clear p2
    obtain ⟨x9_1, rfl, HA, HK1, ⟨m1, rfl⟩⟩ := hrel
    cases gk with
    | zero => exact absurd HA.out (by simp [tesseraref08_In.l0])
    | succ k1 =>
      have H := HA.out
      clear HA
      first | rw [tesseraref08_In.l0] at H | simp only [tesseraref08_In.l0] at H
      by_cases c3 : x9_1 < (l0.length : Int)
      · rw [if_pos c3] at H
        have c3b0 : decide (x9_1 < (l0.length : Int)) = true := decide_eq_true c3
        clear c3
        by_cases c4 : 0 ≤ x9_1
        · rw [if_pos c4] at H
          have c4b0 : decide (0 ≤ x9_1) = true := decide_eq_true c4
          clear c4
          by_cases c5 : x9_1 < (l0.length : Int)
          · rw [if_pos c5] at H
            have c5b0 : decide (x9_1 < (l0.length : Int)) = true := decide_eq_true c5
            clear c5
            by_cases c6 : (rd l0 x9_1) = a1
            · rw [if_pos c6] at H
              have c6b0 : ((rd l0 x9_1) == a1) = true := beq_iff_eq.mpr c6
              have c6b1 : ((rd l0 x9_1) != a1) = false := bne_eq_false_iff_eq.mpr c6
              clear c6
              obtain rfl := Option.some.inj H
              have p233 : 0 ≤ (x9_1 : Int) := of_decide_eq_true (by first | (with_reducible assumption) | assumption)
              have q233 : x9_1 < (l0.length : Int) := of_decide_eq_true (by first | (with_reducible assumption) | assumption)
              obtain ⟨ad233, e233, hx233_0⟩ := Kd.at_int HR0.out x9_1 p233 q233
              cases e233
              replace p233 := eq_true p233
              replace q233 := eq_true q233
              go_wp2
              go_ret
              exact ⟨by first | rfl | (simp; done) | (simp [*]; done), by repeat (first | exact Drawn0.refl _ | apply Drawn0.step)⟩
            · rw [if_neg c6] at H
              have c6b0 : ((rd l0 x9_1) == a1) = false := beq_eq_false_iff_ne.mpr c6
              have c6b1 : ((rd l0 x9_1) != a1) = true := bne_iff_ne.mpr c6
              have H' := Aside0.mk H
              clear H
              have p233 : 0 ≤ (x9_1 : Int) := of_decide_eq_true (by first | (with_reducible assumption) | assumption)
              have q233 : x9_1 < (l0.length : Int) := of_decide_eq_true (by first | (with_reducible assumption) | assumption)
              obtain ⟨ad233, e233, hx233_0⟩ := Kd.at_int HR0.out x9_1 p233 q233
              cases e233
              replace p233 := eq_true p233
              replace q233 := eq_true q233
              go_wp2
              go_roundg k1
              case measure => have := HK1.out; omega
              case rel => exact ⟨(wrap64 (x9_1 + 1)), (by first | rfl | (simp; done) | (simp [*]; done)), H', ⟨by have := HK1.out; omega⟩, by repeat (first | exact Drawn0.refl _ | apply Drawn0.step)⟩
          · rw [if_neg c5] at H
            exact absurd H (by simp)
        · rw [if_neg c4] at H
          exact absurd H (by simp)
      · rw [if_neg c3] at H
        have c3b0 : decide (x9_1 < (l0.length : Int)) = false := decide_eq_false c3
        clear c3
        obtain rfl := Option.some.inj H
        go_wp2
        go_ret
        exact ⟨by first | rfl | (simp; done) | (simp [*]; done), by repeat (first | exact Drawn0.refl _ | apply Drawn0.step)⟩

end Go.Proofs.YtndnedjclbigiaaDoor.F

namespace Go.Proofs.YtndnedjclbigiaaDoor.F
open Go.RowKit Go.Proofs.YtndnedjclbigiaaDoorW.PrintWords Go.Proofs.YtndnedjclbigiaaDoorW.PrintLast Go.Proofs.YtndnedjclbigiaaDoorW.PrintMore
attribute [local go_sem] max2_int min2_int max_two min_two max_three min_three max_four min_four   -- for this text's walks alone
set_option linter.unusedVariables false
set_option linter.unusedSimpArgs false
set_option linter.unusedSectionVars false
open Go.Proofs.YtndnedjclbigiaaDoor
variable [Errs]

/-! ### tesseralaw08_DamageParts: function 4 -/
def tesseralaw08_DamageParts.L : List Int := [1, 2, 4, 12]
mutual
def tesseralaw08_DamageParts.j0 : Nat → Int → Int → List Int → Bool → Option (Bool)
  | 0, _, _, _, _ => none
  | k + 1, x0, x1, x2, x27 => if x27 = true then (some true) else ((damage_Left.f k x0 x1 x2).bind fun bt256 => ((damage_Left.f k x0 x1 bt256.1).bind fun bt260 => ((damage_Whole.f k x0 x1 x2).bind fun bt264 => (if ((isNil bt256.2) = true) then (if ((isNil bt260.2) = true) then (if ((isNil bt264.2) = true) then (if (wrap64 ((bt256.1.length : Int) + (x2.length : Int))) = (wrap64 (2 * (wrap64 (x0 + x1)))) then ((tesseranum_SameInts.f k bt260.1 x2).bind fun t268 => (tesseralaw08_DamageParts.j1 k x0 x1 x2 bt264.1 (!t268))) else (tesseralaw08_DamageParts.j1 k x0 x1 x2 bt264.1 true)) else (tesseralaw08_DamageParts.j1 k x0 x1 x2 bt264.1 true)) else (tesseralaw08_DamageParts.j1 k x0 x1 x2 bt264.1 true)) else (tesseralaw08_DamageParts.j1 k x0 x1 x2 bt264.1 true)))))
def tesseralaw08_DamageParts.j1 : Nat → Int → Int → List Int → List Int → Bool → Option (Bool)
  | 0, _, _, _, _, _ => none
  | k + 1, x0, x1, x2, x11, x76 => if x76 = true then (some false) else (tesseralaw08_DamageParts.l0 k x0 x1 x2 x11 0 0)
def tesseralaw08_DamageParts.l0 : Nat → Int → Int → List Int → List Int → Int → Int → Option (Bool)
  | 0, _, _, _, _, _, _ => none
  | k + 1, x0, x1, x2, x11, x13, x14 => if x14 < (wrap64 (x0 + x1)) then ((tesseraref08_In.f k x2 (wrap64 (2 * x14))).bind fun t269 => (if t269 = true then ((tesseraref08_In.f k x2 (wrap64 ((wrap64 (2 * x14)) + 1))).bind fun t270 => (tesseralaw08_DamageParts.j3 k x0 x1 x2 x11 x13 x14 t270)) else (tesseralaw08_DamageParts.j3 k x0 x1 x2 x11 x13 x14 false))) else (some (x13 == (x11.length : Int)))
def tesseralaw08_DamageParts.j3 : Nat → Int → Int → List Int → List Int → Int → Int → Bool → Option (Bool)
  | 0, _, _, _, _, _, _, _ => none
  | k + 1, x0, x1, x2, x11, x13, x14, x94 => if x94 = true then (if x13 ≥ (x11.length : Int) then (some false) else (if 0 ≤ x13 then (if x13 < (x11.length : Int) then (if (rd x11 x13) = x14 then (tesseralaw08_DamageParts.l0 k x0 x1 x2 x11 (wrap64 (x13 + 1)) (wrap64 (x14 + 1))) else (some false)) else (none)) else (none))) else (tesseralaw08_DamageParts.l0 k x0 x1 x2 x11 x13 (wrap64 (x14 + 1)))
end
def tesseralaw08_DamageParts.f (k : Nat) (a0 : Int) (a1 : Int) (l2 : List Int) : Option (Bool) := (tesseralaw08_alive.f k).bind fun t253 => (if t253 = true then ((tesseraref04_Legal.f a0 a1).bind fun t254 => (if t254 = true then ((tesseraref08_Good.f k a0 a1 l2).bind fun t255 => (tesseralaw08_DamageParts.j0 k a0 a1 l2 (!t255))) else (tesseralaw08_DamageParts.j0 k a0 a1 l2 true))) else (some false))
theorem tesseralaw08_DamageParts.mono_l : ∀ k, (∀ y0 y1 y2 y3, LeO (tesseralaw08_DamageParts.j0 k y0 y1 y2 y3) (tesseralaw08_DamageParts.j0 (k + 1) y0 y1 y2 y3)) ∧ (∀ y0 y1 y2 y3 y4, LeO (tesseralaw08_DamageParts.j1 k y0 y1 y2 y3 y4) (tesseralaw08_DamageParts.j1 (k + 1) y0 y1 y2 y3 y4)) ∧ (∀ y0 y1 y2 y3 y4 y5, LeO (tesseralaw08_DamageParts.l0 k y0 y1 y2 y3 y4 y5) (tesseralaw08_DamageParts.l0 (k + 1) y0 y1 y2 y3 y4 y5)) ∧ (∀ y0 y1 y2 y3 y4 y5 y6, LeO (tesseralaw08_DamageParts.j3 k y0 y1 y2 y3 y4 y5 y6) (tesseralaw08_DamageParts.j3 (k + 1) y0 y1 y2 y3 y4 y5 y6))
  | 0 => ⟨fun _ _ _ _ r h => by simp [tesseralaw08_DamageParts.j0] at h, fun _ _ _ _ _ r h => by simp [tesseralaw08_DamageParts.j1] at h, fun _ _ _ _ _ _ r h => by simp [tesseralaw08_DamageParts.l0] at h, fun _ _ _ _ _ _ _ r h => by simp [tesseralaw08_DamageParts.j3] at h⟩
  | k + 1 => by
    obtain ⟨ih0, ih1, ih2, ih3⟩ := tesseralaw08_DamageParts.mono_l k
    refine ⟨?_, ?_, ?_, ?_⟩
    · intro y0 y1 y2 y3
      unfold tesseralaw08_DamageParts.j0
      repeat' first
      | (with_reducible exact ih0 _ _ _ _)
      | (with_reducible exact ih1 _ _ _ _ _)
      | (with_reducible exact ih2 _ _ _ _ _ _)
      | (with_reducible exact ih3 _ _ _ _ _ _ _)
      | (with_reducible exact damage_Left.mono _ _ _ _)
      | (with_reducible exact damage_Whole.mono _ _ _ _)
      | (with_reducible exact tesseralaw08_alive.mono _)
      | (with_reducible exact tesseranum_SameInts.mono _ _ _)
      | (with_reducible exact tesseraref08_Good.mono _ _ _ _)
      | (with_reducible exact tesseraref08_In.mono _ _ _)
      | (with_reducible exact LeO.refl _)
      | (with_reducible exact LeO.none _)
      | (with_reducible refine LeO.ite ?_ ?_)
      | (with_reducible refine LeO.bind ?_ (fun _ => ?_))
      | exact ih0 _ _ _ _
      | exact ih1 _ _ _ _ _
      | exact ih2 _ _ _ _ _ _
      | exact ih3 _ _ _ _ _ _ _
      | exact damage_Left.mono _ _ _ _
      | exact damage_Whole.mono _ _ _ _
      | exact tesseralaw08_alive.mono _
      | exact tesseranum_SameInts.mono _ _ _
      | exact tesseraref08_Good.mono _ _ _ _
      | exact tesseraref08_In.mono _ _ _
      | exact LeO.none _
      | refine LeO.ite ?_ ?_
      | refine LeO.bind ?_ (fun _ => ?_)
    · intro y0 y1 y2 y3 y4
      unfold tesseralaw08_DamageParts.j1
      repeat' first
      | (with_reducible exact ih0 _ _ _ _)
      | (with_reducible exact ih1 _ _ _ _ _)
      | (with_reducible exact ih2 _ _ _ _ _ _)
      | (with_reducible exact ih3 _ _ _ _ _ _ _)
      | (with_reducible exact damage_Left.mono _ _ _ _)
      | (with_reducible exact damage_Whole.mono _ _ _ _)
      | (with_reducible exact tesseralaw08_alive.mono _)
      | (with_reducible exact tesseranum_SameInts.mono _ _ _)
      | (with_reducible exact tesseraref08_Good.mono _ _ _ _)
      | (with_reducible exact tesseraref08_In.mono _ _ _)
      | (with_reducible exact LeO.refl _)
      | (with_reducible exact LeO.none _)
      | (with_reducible refine LeO.ite ?_ ?_)
      | (with_reducible refine LeO.bind ?_ (fun _ => ?_))
      | exact ih0 _ _ _ _
      | exact ih1 _ _ _ _ _
      | exact ih2 _ _ _ _ _ _
      | exact ih3 _ _ _ _ _ _ _
      | exact damage_Left.mono _ _ _ _
      | exact damage_Whole.mono _ _ _ _
      | exact tesseralaw08_alive.mono _
      | exact tesseranum_SameInts.mono _ _ _
      | exact tesseraref08_Good.mono _ _ _ _
      | exact tesseraref08_In.mono _ _ _
      | exact LeO.none _
      | refine LeO.ite ?_ ?_
      | refine LeO.bind ?_ (fun _ => ?_)
    · intro y0 y1 y2 y3 y4 y5
      unfold tesseralaw08_DamageParts.l0
      repeat' first
      | (with_reducible exact ih0 _ _ _ _)
      | (with_reducible exact ih1 _ _ _ _ _)
      | (with_reducible exact ih2 _ _ _ _ _ _)
      | (with_reducible exact ih3 _ _ _ _ _ _ _)
      | (with_reducible exact damage_Left.mono _ _ _ _)
      | (with_reducible exact damage_Whole.mono _ _ _ _)
      | (with_reducible exact tesseralaw08_alive.mono _)
      | (with_reducible exact tesseranum_SameInts.mono _ _ _)
      | (with_reducible exact tesseraref08_Good.mono _ _ _ _)
      | (with_reducible exact tesseraref08_In.mono _ _ _)
      | (with_reducible exact LeO.refl _)
      | (with_reducible exact LeO.none _)
      | (with_reducible refine LeO.ite ?_ ?_)
      | (with_reducible refine LeO.bind ?_ (fun _ => ?_))
      | exact ih0 _ _ _ _
      | exact ih1 _ _ _ _ _
      | exact ih2 _ _ _ _ _ _
      | exact ih3 _ _ _ _ _ _ _
      | exact damage_Left.mono _ _ _ _
      | exact damage_Whole.mono _ _ _ _
      | exact tesseralaw08_alive.mono _
      | exact tesseranum_SameInts.mono _ _ _
      | exact tesseraref08_Good.mono _ _ _ _
      | exact tesseraref08_In.mono _ _ _
      | exact LeO.none _
      | refine LeO.ite ?_ ?_
      | refine LeO.bind ?_ (fun _ => ?_)
    · intro y0 y1 y2 y3 y4 y5 y6
      unfold tesseralaw08_DamageParts.j3
      repeat' first
      | (with_reducible exact ih0 _ _ _ _)
      | (with_reducible exact ih1 _ _ _ _ _)
      | (with_reducible exact ih2 _ _ _ _ _ _)
      | (with_reducible exact ih3 _ _ _ _ _ _ _)
      | (with_reducible exact damage_Left.mono _ _ _ _)
      | (with_reducible exact damage_Whole.mono _ _ _ _)
      | (with_reducible exact tesseralaw08_alive.mono _)
      | (with_reducible exact tesseranum_SameInts.mono _ _ _)
      | (with_reducible exact tesseraref08_Good.mono _ _ _ _)
      | (with_reducible exact tesseraref08_In.mono _ _ _)
      | (with_reducible exact LeO.refl _)
      | (with_reducible exact LeO.none _)
      | (with_reducible refine LeO.ite ?_ ?_)
      | (with_reducible refine LeO.bind ?_ (fun _ => ?_))
      | exact ih0 _ _ _ _
      | exact ih1 _ _ _ _ _
      | exact ih2 _ _ _ _ _ _
      | exact ih3 _ _ _ _ _ _ _
      | exact damage_Left.mono _ _ _ _
      | exact damage_Whole.mono _ _ _ _
      | exact tesseralaw08_alive.mono _
      | exact tesseranum_SameInts.mono _ _ _
      | exact tesseraref08_Good.mono _ _ _ _
      | exact tesseraref08_In.mono _ _ _
      | exact LeO.none _
      | refine LeO.ite ?_ ?_
      | refine LeO.bind ?_ (fun _ => ?_)
theorem tesseralaw08_DamageParts.mono : ∀ a0 a1 a2 k, LeO (tesseralaw08_DamageParts.f k a0 a1 a2) (tesseralaw08_DamageParts.f (k + 1) a0 a1 a2) := by
  intro a0 a1 a2 k
  obtain ⟨ih0, ih1, ih2, ih3⟩ := tesseralaw08_DamageParts.mono_l k
  unfold tesseralaw08_DamageParts.f
  repeat' first
      | (with_reducible exact ih0 _ _ _ _)
      | (with_reducible exact ih1 _ _ _ _ _)
      | (with_reducible exact ih2 _ _ _ _ _ _)
      | (with_reducible exact ih3 _ _ _ _ _ _ _)
      | (with_reducible exact damage_Left.mono _ _ _ _)
      | (with_reducible exact damage_Whole.mono _ _ _ _)
      | (with_reducible exact tesseralaw08_alive.mono _)
      | (with_reducible exact tesseranum_SameInts.mono _ _ _)
      | (with_reducible exact tesseraref08_Good.mono _ _ _ _)
      | (with_reducible exact tesseraref08_In.mono _ _ _)
      | (with_reducible exact LeO.refl _)
      | (with_reducible exact LeO.none _)
      | (with_reducible refine LeO.ite ?_ ?_)
      | (with_reducible refine LeO.bind ?_ (fun _ => ?_))
      | exact ih0 _ _ _ _
      | exact ih1 _ _ _ _ _
      | exact ih2 _ _ _ _ _ _
      | exact ih3 _ _ _ _ _ _ _
      | exact damage_Left.mono _ _ _ _
      | exact damage_Whole.mono _ _ _ _
      | exact tesseralaw08_alive.mono _
      | exact tesseranum_SameInts.mono _ _ _
      | exact tesseraref08_Good.mono _ _ _ _
      | exact tesseraref08_In.mono _ _ _
      | exact LeO.none _
      | refine LeO.ite ?_ ?_
      | refine LeO.bind ?_ (fun _ => ?_)
set_option maxHeartbeats 8000000 in
set_option maxRecDepth 100000 in
theorem tesseralaw08_DamageParts.calls (k : Nat) (a0 : Int) (a1 : Int) (A2 : Option Addr) (c2 : Nat) (l2 : List Int) (r : Bool) (w : World) (hr2 : Kd.C (Kd.int .i64) w A2 l2.length l2) (hc2 : l2.length ≤ c2) (h : tesseralaw08_DamageParts.f k a0 a1 l2 = some r) (hT : r = true) (hS : Sent tesseralaw08_DamageParts.L w) :
    Calls Tryd.prog 4 #[.int .i64 a0, .int .i64 a1, .slice A2 l2.length c2] w fun e w' => e = .returned (.bool r) ∧ Below w.heap.size w w' := by
  have hu30 := Tryd.underlying30
  have HR2 := Aside0.mk hr2
  have HC2 := Aside0.mk hc2
  clear hr2 hc2
  have HB := Aside0.mk (Below.refl w.heap.size w)
  have HT := Aside0.mk hT
  clear hT
  have HS := Aside0.mk hS
  clear hS
  have H : ((tesseralaw08_alive.f k).bind fun t253 => (if t253 = true then ((tesseraref04_Legal.f a0 a1).bind fun t254 => (if t254 = true then ((tesseraref08_Good.f k a0 a1 l2).bind fun t255 => (tesseralaw08_DamageParts.j0 k a0 a1 l2 (!t255))) else (tesseralaw08_DamageParts.j0 k a0 a1 l2 true))) else (some false))) = some r := h
  clear h
  replace H := Option.bind_eq_some_iff.mp H
  obtain ⟨t253, A40, H⟩ := H
  replace H : (if t253 = true then ((tesseraref04_Legal.f a0 a1).bind fun t254 => (if t254 = true then ((tesseraref08_Good.f k a0 a1 l2).bind fun t255 => (tesseralaw08_DamageParts.j0 k a0 a1 l2 (!t255))) else (tesseralaw08_DamageParts.j0 k a0 a1 l2 true))) else (some false)) = some r := H
  have A4 := Aside0.mk A40
  clear A40
  by_cases c5 : t253 = true
  · subst c5
    have H1 : ((tesseraref04_Legal.f a0 a1).bind fun t254 => (if t254 = true then ((tesseraref08_Good.f k a0 a1 l2).bind fun t255 => (tesseralaw08_DamageParts.j0 k a0 a1 l2 (!t255))) else (tesseralaw08_DamageParts.j0 k a0 a1 l2 true))) = some r := by rw [if_pos rfl] at H; exact H
    clear H
    have H := H1
    clear H1
    have HC6 := Aside0.mk H
    clear H
    go_enter Tryd.func4, Tryd.ntmps4
    go_upto_region 3 with (first | ((with_reducible refine gate_callee (f := 6) rfl ?_); refine goesL_ (some 15) rfl rfl Tryd.func6 (by kernel_rfl) rfl #[] rfl (by (try simp only [List.map_toArray, List.map_cons, List.map_nil]); first | done | rfl | (simp only [List.length_drop, List.length_take]; rfl)) ?_; (with_reducible refine (tesseralaw08_alive.calls k  true _ A4.out (Sent.sub (show ∀ c, c ∈ tesseralaw08_alive.L → c ∈ tesseralaw08_DamageParts.L by decide) (Sent.below HS.out (by repeat (first | (with_reducible first | exact HB.out | apply below_alloc | apply pw_below_drewN | apply below_drew1) | exact HB.out))))).mono ?_); rintro e w7 ⟨rfl, hb⟩; refine ⟨_, rfl, ?_⟩; have n0_ := Aside0.mk (below_step (by repeat (first | (with_reducible first | exact HB.out | apply below_alloc | apply pw_below_drewN | apply below_drew1) | exact HB.out)) hb); clear HB; have HB := n0_; clear n0_; (try clear hb); (try clear hb2); (try clear hk); (try clear hi)))
    (try simp only [Act.put, List.setIfInBounds_toArray, List.set_cons_zero, List.set_cons_succ])
    go_cut [27] (fun v27 wc => ∃ (kq : Nat) (x27_5 : Bool), v27 = .bool x27_5 ∧ Aside0 (tesseralaw08_DamageParts.j0 kq a0 a1 l2 x27_5 = some r) ∧ Aside0 (kq ≤ k) ∧ Aside0 (Below w.heap.size w wc))
    case first =>
      have H := HC6.out
      clear HC6
      replace H := Option.bind_eq_some_iff.mp H
      obtain ⟨t254, A80, H⟩ := H
      replace H : (if t254 = true then ((tesseraref08_Good.f k a0 a1 l2).bind fun t255 => (tesseralaw08_DamageParts.j0 k a0 a1 l2 (!t255))) else (tesseralaw08_DamageParts.j0 k a0 a1 l2 true)) = some r := H
      have A8 := Aside0.mk A80
      clear A80
      by_cases c9 : t254 = true
      · subst c9
        have H1 : ((tesseraref08_Good.f k a0 a1 l2).bind fun t255 => (tesseralaw08_DamageParts.j0 k a0 a1 l2 (!t255))) = some r := by rw [if_pos rfl] at H; exact H
        clear H
        have H := H1
        clear H1
        replace H := Option.bind_eq_some_iff.mp H
        obtain ⟨t255, A100, H⟩ := H
        replace H : (tesseralaw08_DamageParts.j0 k a0 a1 l2 (!t255)) = some r := H
        have A10 := Aside0.mk A100
        clear A100
        have H' := Aside0.mk H
        clear H
        go_wp2_with (first | ((with_reducible refine gate_callee (f := 7) rfl ?_); refine goesL_ (some 19) rfl rfl Tryd.func7 (by kernel_rfl) rfl #[.int .i64 a0, .int .i64 a1] rfl (by (try simp only [List.map_toArray, List.map_cons, List.map_nil]); first | done | rfl | (simp only [List.length_drop, List.length_take]; rfl)) ?_; (with_reducible refine (tesseraref04_Legal.calls a0 a1 true _ A8.out).mono ?_); rintro e w' ⟨rfl, ⟨nd, rfl⟩⟩; refine ⟨_, rfl, ?_⟩) | (go_at_call 8; (with_reducible refine (tesseraref08_Good.calls k a0 a1 _ _ l2 t255 _ ?side1 ?side2 A10.out).mono ?_); (case side1 => repeat (first | exact (Kd.C_below HR2.out (by repeat (first | (with_reducible first | exact HB.out | apply below_alloc | apply pw_below_drewN | apply below_drew1) | exact HB.out))) | (with_reducible refine Kd.C_alloc ?_ _) | (with_reducible refine Kd.C_drewN ?_ _) | (with_reducible refine Kd.C_drew ?_))); (case side2 => exact HC2.out); rintro e w' ⟨rfl, ⟨nd, rfl⟩⟩))
        go_meet
        case rel => exact ⟨_, (!t255), (by first | rfl | (simp; done) | (simp [*]; done)), H', ⟨by first | omega | exact Nat.le_refl _⟩, ⟨by repeat (first | (with_reducible first | exact HB.out | apply below_alloc | apply pw_below_drewN | apply below_drew1) | exact HB.out)⟩⟩
      · replace c9 := Bool.eq_false_iff.mpr c9
        subst c9
        have H1 : (tesseralaw08_DamageParts.j0 k a0 a1 l2 true) = some r := by rw [if_neg (show ¬ (false = true) by decide)] at H; exact H
        clear H
        have H := H1
        clear H1
        have H' := Aside0.mk H
        clear H
        go_wp2_with (first | ((with_reducible refine gate_callee (f := 7) rfl ?_); refine goesL_ (some 19) rfl rfl Tryd.func7 (by kernel_rfl) rfl #[.int .i64 a0, .int .i64 a1] rfl (by (try simp only [List.map_toArray, List.map_cons, List.map_nil]); first | done | rfl | (simp only [List.length_drop, List.length_take]; rfl)) ?_; (with_reducible refine (tesseraref04_Legal.calls a0 a1 false _ A8.out).mono ?_); rintro e w' ⟨rfl, ⟨nd, rfl⟩⟩; refine ⟨_, rfl, ?_⟩))
        go_meet
        case rel => exact ⟨_, (true), (by first | rfl | (simp; done) | (simp [*]; done)), H', ⟨by first | omega | exact Nat.le_refl _⟩, ⟨by repeat (first | (with_reducible first | exact HB.out | apply below_alloc | apply pw_below_drewN | apply below_drew1) | exact HB.out)⟩⟩
    case rest =>
      clear HC6
      try clear c2
      try clear p2
      try clear c4
      try clear c5
      try clear c6
      try clear c7
      try clear c9
      obtain ⟨kq, x27_5, rfl, HA, HJ5, HB⟩ := hcut
      cases kq with
      | zero => exact absurd HA.out (by simp [tesseralaw08_DamageParts.j0])
      | succ kj5 =>
        have H := HA.out
        clear HA
        first | rw [tesseralaw08_DamageParts.j0] at H | simp only [tesseralaw08_DamageParts.j0] at H
        by_cases c11 : x27_5 = true
        · subst c11
          have H1 : (some true) = some r := by rw [if_pos rfl] at H; exact H
          clear H
          have H := H1
          clear H1
          obtain rfl := Option.some.inj H
          go_wp2
          go_ret
          exact ⟨by first | rfl | (simp [errW_none, errW_some] <;> rfl) | (simp [*, errW_none, errW_some] <;> rfl), by repeat (first | (with_reducible first | exact HB.out | apply below_alloc | apply pw_below_drewN | apply below_drew1) | exact HB.out)⟩
        · replace c11 := Bool.eq_false_iff.mpr c11
          subst c11
          have H1 : ((damage_Left.f kj5 a0 a1 l2).bind fun bt256 => ((damage_Left.f kj5 a0 a1 bt256.1).bind fun bt260 => ((damage_Whole.f kj5 a0 a1 l2).bind fun bt264 => (if ((isNil bt256.2) = true) then (if ((isNil bt260.2) = true) then (if ((isNil bt264.2) = true) then (if (wrap64 ((bt256.1.length : Int) + (l2.length : Int))) = (wrap64 (2 * (wrap64 (a0 + a1)))) then ((tesseranum_SameInts.f kj5 bt260.1 l2).bind fun t268 => (tesseralaw08_DamageParts.j1 kj5 a0 a1 l2 bt264.1 (!t268))) else (tesseralaw08_DamageParts.j1 kj5 a0 a1 l2 bt264.1 true)) else (tesseralaw08_DamageParts.j1 kj5 a0 a1 l2 bt264.1 true)) else (tesseralaw08_DamageParts.j1 kj5 a0 a1 l2 bt264.1 true)) else (tesseralaw08_DamageParts.j1 kj5 a0 a1 l2 bt264.1 true))))) = some r := by rw [if_neg (show ¬ (false = true) by decide)] at H; exact H
          clear H
          have H := H1
          clear H1
          replace H := Option.bind_eq_some_iff.mp H
          obtain ⟨⟨t256, t257⟩, A120, H⟩ := H
          replace H : ((damage_Left.f kj5 a0 a1 t256).bind fun bt260 => ((damage_Whole.f kj5 a0 a1 l2).bind fun bt264 => (if ((isNil t257) = true) then (if ((isNil bt260.2) = true) then (if ((isNil bt264.2) = true) then (if (wrap64 ((t256.length : Int) + (l2.length : Int))) = (wrap64 (2 * (wrap64 (a0 + a1)))) then ((tesseranum_SameInts.f kj5 bt260.1 l2).bind fun t268 => (tesseralaw08_DamageParts.j1 kj5 a0 a1 l2 bt264.1 (!t268))) else (tesseralaw08_DamageParts.j1 kj5 a0 a1 l2 bt264.1 true)) else (tesseralaw08_DamageParts.j1 kj5 a0 a1 l2 bt264.1 true)) else (tesseralaw08_DamageParts.j1 kj5 a0 a1 l2 bt264.1 true)) else (tesseralaw08_DamageParts.j1 kj5 a0 a1 l2 bt264.1 true)))) = some r := H
          have A12 := Aside0.mk A120
          clear A120
          replace H := Option.bind_eq_some_iff.mp H
          obtain ⟨⟨t260, t261⟩, A130, H⟩ := H
          replace H : ((damage_Whole.f kj5 a0 a1 l2).bind fun bt264 => (if ((isNil t257) = true) then (if ((isNil t261) = true) then (if ((isNil bt264.2) = true) then (if (wrap64 ((t256.length : Int) + (l2.length : Int))) = (wrap64 (2 * (wrap64 (a0 + a1)))) then ((tesseranum_SameInts.f kj5 t260 l2).bind fun t268 => (tesseralaw08_DamageParts.j1 kj5 a0 a1 l2 bt264.1 (!t268))) else (tesseralaw08_DamageParts.j1 kj5 a0 a1 l2 bt264.1 true)) else (tesseralaw08_DamageParts.j1 kj5 a0 a1 l2 bt264.1 true)) else (tesseralaw08_DamageParts.j1 kj5 a0 a1 l2 bt264.1 true)) else (tesseralaw08_DamageParts.j1 kj5 a0 a1 l2 bt264.1 true))) = some r := H
          have A13 := Aside0.mk A130
          clear A130
          replace H := Option.bind_eq_some_iff.mp H
          obtain ⟨⟨t264, t265⟩, A140, H⟩ := H
          replace H : (if ((isNil t257) = true) then (if ((isNil t261) = true) then (if ((isNil t265) = true) then (if (wrap64 ((t256.length : Int) + (l2.length : Int))) = (wrap64 (2 * (wrap64 (a0 + a1)))) then ((tesseranum_SameInts.f kj5 t260 l2).bind fun t268 => (tesseralaw08_DamageParts.j1 kj5 a0 a1 l2 t264 (!t268))) else (tesseralaw08_DamageParts.j1 kj5 a0 a1 l2 t264 true)) else (tesseralaw08_DamageParts.j1 kj5 a0 a1 l2 t264 true)) else (tesseralaw08_DamageParts.j1 kj5 a0 a1 l2 t264 true)) else (tesseralaw08_DamageParts.j1 kj5 a0 a1 l2 t264 true)) = some r := H
          have A14 := Aside0.mk A140
          clear A140
          have HC15 := Aside0.mk H
          clear H
          go_upto_region 8 with (first | ((with_reducible refine gate_callee (f := 11) rfl ?_); refine goesL_ (some 32) rfl rfl Tryd.func11 (by kernel_rfl) rfl #[.int .i64 a0, .int .i64 a1, .slice A2 l2.length c2] rfl (by (try simp only [List.map_toArray, List.map_cons, List.map_nil]); first | done | rfl | (simp only [List.length_drop, List.length_take]; rfl)) ?_; (with_reducible refine (damage_Left.calls kj5 a0 a1 _ _ l2 t256 t257 _ ?side1 ?side2 A12.out (Sent.sub (show ∀ c, c ∈ damage_Left.L → c ∈ tesseralaw08_DamageParts.L by decide) (Sent.below HS.out (by repeat (first | (with_reducible first | exact HB.out | apply below_alloc | apply pw_below_drewN | apply below_drew1) | exact HB.out))))).mono ?_); (case side1 => repeat (first | exact (Kd.C_below HR2.out HB.out) | (with_reducible refine Kd.C_alloc ?_ _) | (with_reducible refine Kd.C_drewN ?_ _) | (with_reducible refine Kd.C_drew ?_))); (case side2 => exact HC2.out); rintro e w16 ⟨v258, rfl, ho0, hb⟩; refine ⟨_, rfl, ?_⟩; have n0_ := Aside0.mk (Kd.R_lower ho0 (below_size (by repeat (first | (with_reducible first | exact HB.out | apply below_alloc | apply pw_below_drewN | apply below_drew1) | exact HB.out)))); have n1_ := Aside0.mk (below_step (by repeat (first | (with_reducible first | exact HB.out | apply below_alloc | apply pw_below_drewN | apply below_drew1) | exact HB.out)) hb); clear HB; have HO259 := n0_; have HB := n1_; clear n0_ n1_; (try clear hb); (try clear hb2); (try clear hk); (try clear hi); (try clear ho0); (try simp only [errW_none, errW_some]); obtain ⟨Ao17, co17, eo17⟩ := Kd.R_slice HO259.out; subst eo17) | ((with_reducible refine gate_callee (f := 11) rfl ?_); refine goesL_ (some 39) rfl rfl Tryd.func11 (by kernel_rfl) rfl #[.int .i64 a0, .int .i64 a1, .slice Ao17 t256.length co17] rfl (by (try simp only [List.map_toArray, List.map_cons, List.map_nil]); first | done | rfl | (simp only [List.length_drop, List.length_take]; rfl)) ?_; (with_reducible refine (damage_Left.calls kj5 a0 a1 _ _ t256 t260 t261 _ ?side1 ?side2 A13.out (Sent.sub (show ∀ c, c ∈ damage_Left.L → c ∈ tesseralaw08_DamageParts.L by decide) (Sent.below HS.out (by repeat (first | (with_reducible first | exact HB.out | apply below_alloc | apply pw_below_drewN | apply below_drew1) | exact HB.out))))).mono ?_); (case side1 => repeat (first | exact (Kd.R_reads' HO259.out).2.2 | (with_reducible refine Kd.C_alloc ?_ _) | (with_reducible refine Kd.C_drewN ?_ _) | (with_reducible refine Kd.C_drew ?_))); (case side2 => exact (Kd.R_reads' HO259.out).2.1); rintro e w18 ⟨v262, rfl, ho0, hb⟩; refine ⟨_, rfl, ?_⟩; have n0_ := Aside0.mk (Kd.R_elder' (by (with_reducible repeat (first | apply Kd.R_alloc | apply Kd.R_drewN | apply Kd.R_drew)); exact HO259.out) (Kd.R_base ho0) hb); have n1_ := Aside0.mk (Kd.R_lower (Kd.R_new' ho0 (Kd.R_lt (by (with_reducible repeat (first | apply Kd.R_alloc | apply Kd.R_drewN | apply Kd.R_drew)); exact HO259.out))) (below_size (by repeat (first | (with_reducible first | exact HB.out | apply below_alloc | apply pw_below_drewN | apply below_drew1) | exact HB.out)))); have n2_ := Aside0.mk (below_step (by repeat (first | (with_reducible first | exact HB.out | apply below_alloc | apply pw_below_drewN | apply below_drew1) | exact HB.out)) hb); clear HO259; clear HB; have HO259 := n0_; have HO263 := n1_; have HB := n2_; clear n0_ n1_ n2_; (try clear hb); (try clear hb2); (try clear hk); (try clear hi); (try clear ho0); (try simp only [errW_none, errW_some])) | ((with_reducible refine gate_callee (f := 12) rfl ?_); refine goesL_ (some 46) rfl rfl Tryd.func12 (by kernel_rfl) rfl #[.int .i64 a0, .int .i64 a1, .slice A2 l2.length c2] rfl (by (try simp only [List.map_toArray, List.map_cons, List.map_nil]); first | done | rfl | (simp only [List.length_drop, List.length_take]; rfl)) ?_; (with_reducible refine (damage_Whole.calls kj5 a0 a1 _ _ l2 t264 t265 _ ?side1 ?side2 A14.out (Sent.sub (show ∀ c, c ∈ damage_Whole.L → c ∈ tesseralaw08_DamageParts.L by decide) (Sent.below HS.out (by repeat (first | (with_reducible first | exact HB.out | apply below_alloc | apply pw_below_drewN | apply below_drew1) | exact HB.out))))).mono ?_); (case side1 => repeat (first | exact (Kd.C_below HR2.out HB.out) | (with_reducible refine Kd.C_alloc ?_ _) | (with_reducible refine Kd.C_drewN ?_ _) | (with_reducible refine Kd.C_drew ?_))); (case side2 => exact HC2.out); rintro e w19 ⟨v266, rfl, ho0, hb⟩; refine ⟨_, rfl, ?_⟩; have n0_ := Aside0.mk (Kd.R_elder' (by (with_reducible repeat (first | apply Kd.R_alloc | apply Kd.R_drewN | apply Kd.R_drew)); exact HO259.out) (Kd.R_base ho0) hb); have n1_ := Aside0.mk (Kd.R_elder' (by (with_reducible repeat (first | apply Kd.R_alloc | apply Kd.R_drewN | apply Kd.R_drew)); exact HO263.out) (Kd.R_base ho0) hb); have n2_ := Aside0.mk (Kd.R_lower (Kd.R_new' (Kd.R_new' ho0 (Kd.R_lt (by (with_reducible repeat (first | apply Kd.R_alloc | apply Kd.R_drewN | apply Kd.R_drew)); exact HO259.out))) (Kd.R_lt (by (with_reducible repeat (first | apply Kd.R_alloc | apply Kd.R_drewN | apply Kd.R_drew)); exact HO263.out))) (below_size (by repeat (first | (with_reducible first | exact HB.out | apply below_alloc | apply pw_below_drewN | apply below_drew1) | exact HB.out)))); have n3_ := Aside0.mk (below_step (by repeat (first | (with_reducible first | exact HB.out | apply below_alloc | apply pw_below_drewN | apply below_drew1) | exact HB.out)) hb); clear HO259; clear HO263; clear HB; have HO259 := n0_; have HO263 := n1_; have HO267 := n2_; have HB := n3_; clear n0_ n1_ n2_ n3_; (try clear hb); (try clear hb2); (try clear hk); (try clear hi); (try clear ho0); (try simp only [errW_none, errW_some])))
          (try simp only [Act.put, List.setIfInBounds_toArray, List.set_cons_zero, List.set_cons_succ])
          go_cut [76] (fun v76 wc => ∃ (kq : Nat) (x76_14 : Bool), v76 = .bool x76_14 ∧ Aside0 (tesseralaw08_DamageParts.j1 kq a0 a1 l2 t264 x76_14 = some r) ∧ Aside0 (kq ≤ kj5) ∧ Aside0 (Kd.R (Kd.int .i64) 3 wc w.heap.size (fun _ => True) v266 t264) ∧ Aside0 (Below w.heap.size w wc))
          case first =>
            have H := HC15.out
            clear HC15
            have hq20 := fun (W_ : World) => errW_neq_nil t257 W_
            by_cases c21 : ((isNil t257) = true)
            · rw [if_pos c21] at H
              have c21b0 : (isNil t257) = true := c21
              clear c21
              (first | rw [c21b0] | (simp only [i64_w, i32_w]; rw [c21b0]) | skip)
              have hq22 := fun (W_ : World) => errW_neq_nil t261 W_
              by_cases c23 : ((isNil t261) = true)
              · rw [if_pos c23] at H
                have c23b0 : (isNil t261) = true := c23
                clear c23
                have hq24 := fun (W_ : World) => errW_neq_nil t265 W_
                by_cases c25 : ((isNil t265) = true)
                · rw [if_pos c25] at H
                  have c25b0 : (isNil t265) = true := c25
                  clear c25
                  by_cases c26 : (wrap64 ((t256.length : Int) + (l2.length : Int))) = (wrap64 (2 * (wrap64 (a0 + a1))))
                  · rw [if_pos c26] at H
                    have c26b0 : ((wrap64 ((t256.length : Int) + (l2.length : Int))) == (wrap64 (2 * (wrap64 (a0 + a1))))) = true := beq_iff_eq.mpr c26
                    have c26b1 : ((wrap64 ((t256.length : Int) + (l2.length : Int))) != (wrap64 (2 * (wrap64 (a0 + a1))))) = false := bne_eq_false_iff_eq.mpr c26
                    clear c26
                    replace H := Option.bind_eq_some_iff.mp H
                    obtain ⟨t268, A270, H⟩ := H
                    replace H : (tesseralaw08_DamageParts.j1 kj5 a0 a1 l2 t264 (!t268)) = some r := H
                    have A27 := Aside0.mk A270
                    clear A270
                    have H' := Aside0.mk H
                    clear H
                    obtain ⟨Ao28, co28, eo28⟩ := Kd.R_slice HO263.out
                    subst eo28
                    go_wp2_with (first | (go_at_call 13; (with_reducible refine (tesseranum_SameInts.calls kj5 _ _ t260 _ _ l2 t268 _ ?side1 ?side2 ?side3 ?side4 A27.out).mono ?_); (case side1 => repeat (first | exact (Kd.R_reads' HO263.out).2.2 | (with_reducible refine Kd.C_alloc ?_ _) | (with_reducible refine Kd.C_drewN ?_ _) | (with_reducible refine Kd.C_drew ?_))); (case side2 => exact (Kd.R_reads' HO263.out).2.1); (case side3 => repeat (first | exact (Kd.C_below HR2.out HB.out) | (with_reducible refine Kd.C_alloc ?_ _) | (with_reducible refine Kd.C_drewN ?_ _) | (with_reducible refine Kd.C_drew ?_))); (case side4 => exact HC2.out); rintro e w' ⟨rfl, ⟨nd, rfl⟩⟩))
                    go_meet
                    case rel => exact ⟨_, (!t268), (by first | rfl | (simp; done) | (simp [*]; done)), H', ⟨by have := HJ5.out; first | omega | exact Nat.le_refl _⟩, ⟨by (with_reducible repeat (first | apply Kd.R_alloc | apply Kd.R_drewN | apply Kd.R_drew)); exact Kd.R_mono HO267.out (fun _ hk => trivial)⟩, ⟨by repeat (first | (with_reducible first | exact HB.out | apply below_alloc | apply pw_below_drewN | apply below_drew1) | exact HB.out)⟩⟩
                  · rw [if_neg c26] at H
                    have c26b0 : ((wrap64 ((t256.length : Int) + (l2.length : Int))) == (wrap64 (2 * (wrap64 (a0 + a1))))) = false := beq_eq_false_iff_ne.mpr c26
                    have c26b1 : ((wrap64 ((t256.length : Int) + (l2.length : Int))) != (wrap64 (2 * (wrap64 (a0 + a1))))) = true := bne_iff_ne.mpr c26
                    have H' := Aside0.mk H
                    clear H
                    go_wp2
                    go_meet
                    case rel => exact ⟨_, (true), (by first | rfl | (simp; done) | (simp [*]; done)), H', ⟨by have := HJ5.out; first | omega | exact Nat.le_refl _⟩, ⟨by (with_reducible repeat (first | apply Kd.R_alloc | apply Kd.R_drewN | apply Kd.R_drew)); exact Kd.R_mono HO267.out (fun _ hk => trivial)⟩, ⟨by repeat (first | (with_reducible first | exact HB.out | apply below_alloc | apply pw_below_drewN | apply below_drew1) | exact HB.out)⟩⟩
                · rw [if_neg c25] at H
                  have c25b0 : (isNil t265) = false := by simpa using c25
                  clear c25
                  have H' := Aside0.mk H
                  clear H
                  go_wp2
                  go_meet
                  case rel => exact ⟨_, (true), (by first | rfl | (simp; done) | (simp [*]; done)), H', ⟨by have := HJ5.out; first | omega | exact Nat.le_refl _⟩, ⟨by (with_reducible repeat (first | apply Kd.R_alloc | apply Kd.R_drewN | apply Kd.R_drew)); exact Kd.R_mono HO267.out (fun _ hk => trivial)⟩, ⟨by repeat (first | (with_reducible first | exact HB.out | apply below_alloc | apply pw_below_drewN | apply below_drew1) | exact HB.out)⟩⟩
              · rw [if_neg c23] at H
                have c23b0 : (isNil t261) = false := by simpa using c23
                clear c23
                have H' := Aside0.mk H
                clear H
                go_wp2
                go_meet
                case rel => exact ⟨_, (true), (by first | rfl | (simp; done) | (simp [*]; done)), H', ⟨by have := HJ5.out; first | omega | exact Nat.le_refl _⟩, ⟨by (with_reducible repeat (first | apply Kd.R_alloc | apply Kd.R_drewN | apply Kd.R_drew)); exact Kd.R_mono HO267.out (fun _ hk => trivial)⟩, ⟨by repeat (first | (with_reducible first | exact HB.out | apply below_alloc | apply pw_below_drewN | apply below_drew1) | exact HB.out)⟩⟩
            · rw [if_neg c21] at H
              have c21b0 : (isNil t257) = false := by simpa using c21
              clear c21
              (first | rw [c21b0] | (simp only [i64_w, i32_w]; rw [c21b0]) | skip)
              have H' := Aside0.mk H
              clear H
              go_wp2
              go_meet
              case rel => exact ⟨_, (true), (by first | rfl | (simp; done) | (simp [*]; done)), H', ⟨by have := HJ5.out; first | omega | exact Nat.le_refl _⟩, ⟨by (with_reducible repeat (first | apply Kd.R_alloc | apply Kd.R_drewN | apply Kd.R_drew)); exact Kd.R_mono HO267.out (fun _ hk => trivial)⟩, ⟨by repeat (first | (with_reducible first | exact HB.out | apply below_alloc | apply pw_below_drewN | apply below_drew1) | exact HB.out)⟩⟩
          case rest =>
            clear HC15
            try clear c1
            try clear c2
            try clear p2
            try clear q2
            try clear c4
            try clear c5
            try clear c6
            try clear p6
            try clear c7
            try clear c9
            try clear c11
            try clear c12
            try clear q20
            try clear c21
            try clear c21b0
            try clear q22
            try clear c23
            try clear c23b0
            try clear q24
            try clear c25
            try clear c25b0
            try clear c26
            try clear c26b0
            try clear c26b1
            try clear p2
            obtain ⟨kq, x76_14, rfl, HA, HJ14, HO_11, HB⟩ := hcut
            cases kq with
            | zero => exact absurd HA.out (by simp [tesseralaw08_DamageParts.j1])
            | succ kj14 =>
              have H := HA.out
              clear HA
              first | rw [tesseralaw08_DamageParts.j1] at H | simp only [tesseralaw08_DamageParts.j1] at H
              by_cases c29 : x76_14 = true
              · subst c29
                have H1 : (some false) = some r := by rw [if_pos rfl] at H; exact H
                clear H
                have H := H1
                clear H1
                exact absurd ((Option.some.inj H).trans HT.out) (by decide)
              · replace c29 := Bool.eq_false_iff.mpr c29
                subst c29
                have H1 : (tesseralaw08_DamageParts.l0 kj14 a0 a1 l2 t264 0 0) = some r := by rw [if_neg (show ¬ (false = true) by decide)] at H; exact H
                clear H
                have H := H1
                clear H1
                have H' := Aside0.mk H
                clear H
                go_wp2
                go_loopg [13, 14] kj14 (fun kq v13 v14 w' => ∃ (x13_3 : Int) (x14_3 : Int), v13 = .int .i64 x13_3 ∧ v14 = .int .i64 x14_3 ∧ Aside0 (tesseralaw08_DamageParts.l0 kq a0 a1 l2 t264 x13_3 x14_3 = some r) ∧ Aside0 (kq ≤ kj14) ∧ Aside0 (Kd.R (Kd.int .i64) 3 w' w.heap.size (fun _ => True) v266 t264) ∧ Aside0 (Below w.heap.size w w'))
                case atStart => exact ⟨(0), (0), (by first | rfl | (simp; done) | (simp [*]; done)), (by first | rfl | (simp; done) | (simp [*]; done)), H', ⟨Nat.le_refl _⟩, ⟨by (with_reducible repeat (first | apply Kd.R_alloc | apply Kd.R_drewN | apply Kd.R_drew)); exact HO_11.out⟩, ⟨by repeat (first | (with_reducible first | exact HB.out | apply below_alloc | apply pw_below_drewN | apply below_drew1) | exact HB.out)⟩⟩
                case round =>
                  clear H'
                  try clear c1
                  try clear c2
                  try clear p2
                  try clear q2
                  try clear c4
                  try clear c5
                  try clear c6
                  try clear p6
                  try clear c7
                  try clear c9
                  try clear c11
                  try clear c12
                  try clear q20
                  try clear c21
                  try clear c21b0
                  try clear q22
                  try clear c23
                  try clear c23b0
                  try clear q24
                  try clear c25
                  try clear c25b0
                  try clear c26
                  try clear c26b0
                  try clear c26b1
                  try clear c29
                  try clear p2
                  try clear p6
                  try clear q2
                  try clear q20
                  try clear q22
                  try clear q24
                  obtain ⟨x13_3, x14_3, rfl, rfl, HA, HK3, HO_11, HB⟩ := hrel
                  cases gk with
                  | zero => exact absurd HA.out (by simp [tesseralaw08_DamageParts.l0])
                  | succ k3 =>
                    have H := HA.out
                    clear HA
                    first | rw [tesseralaw08_DamageParts.l0] at H | simp only [tesseralaw08_DamageParts.l0] at H
                    by_cases c30 : x14_3 < (wrap64 (a0 + a1))
                    · rw [if_pos c30] at H
                      have c30b0 : decide (x14_3 < (wrap64 (a0 + a1))) = true := decide_eq_true c30
                      clear c30
                      have HC31 := Aside0.mk H
                      clear H
                      go_upto_region 14 with (fail)
                      go_cut [94] (fun v94 wc => ∃ (kq : Nat) (x94_30 : Bool), v94 = .bool x94_30 ∧ Aside0 (tesseralaw08_DamageParts.j3 kq a0 a1 l2 t264 x13_3 x14_3 x94_30 = some r) ∧ Aside0 (kq ≤ k3) ∧ Aside0 (Kd.R (Kd.int .i64) 3 wc w.heap.size (fun _ => True) v266 t264) ∧ Aside0 (Below w.heap.size w wc))
                      case first =>
                        have H := HC31.out
                        clear HC31
                        replace H := Option.bind_eq_some_iff.mp H
                        obtain ⟨t269, A320, H⟩ := H
                        replace H : (if t269 = true then ((tesseraref08_In.f k3 l2 (wrap64 ((wrap64 (2 * x14_3)) + 1))).bind fun t270 => (tesseralaw08_DamageParts.j3 k3 a0 a1 l2 t264 x13_3 x14_3 t270)) else (tesseralaw08_DamageParts.j3 k3 a0 a1 l2 t264 x13_3 x14_3 false)) = some r := H
                        have A32 := Aside0.mk A320
                        clear A320
                        by_cases c33 : t269 = true
                        · subst c33
                          have H1 : ((tesseraref08_In.f k3 l2 (wrap64 ((wrap64 (2 * x14_3)) + 1))).bind fun t270 => (tesseralaw08_DamageParts.j3 k3 a0 a1 l2 t264 x13_3 x14_3 t270)) = some r := by rw [if_pos rfl] at H; exact H
                          clear H
                          have H := H1
                          clear H1
                          replace H := Option.bind_eq_some_iff.mp H
                          obtain ⟨t270, A340, H⟩ := H
                          replace H : (tesseralaw08_DamageParts.j3 k3 a0 a1 l2 t264 x13_3 x14_3 t270) = some r := H
                          have A34 := Aside0.mk A340
                          clear A340
                          have H' := Aside0.mk H
                          clear H
                          go_wp2_with (first | ((with_reducible refine gate_callee (f := 9) rfl ?_); refine goesL_ (some 87) rfl rfl Tryd.func9 (by kernel_rfl) rfl #[.slice A2 l2.length c2, .int .i64 (wrap64 (2 * x14_3))] rfl (by (try simp only [List.map_toArray, List.map_cons, List.map_nil]); first | done | rfl | (simp only [List.length_drop, List.length_take]; rfl)) ?_; (with_reducible refine (tesseraref08_In.calls k3 _ _ l2 (wrap64 (2 * x14_3)) true _ ?side1 ?side2 A32.out).mono ?_); (case side1 => repeat (first | exact (Kd.C_below HR2.out HB.out) | (with_reducible refine Kd.C_alloc ?_ _) | (with_reducible refine Kd.C_drewN ?_ _) | (with_reducible refine Kd.C_drew ?_))); (case side2 => exact HC2.out); rintro e w' ⟨rfl, ⟨nd, rfl⟩⟩; refine ⟨_, rfl, ?_⟩) | (go_at_call 9; (with_reducible refine (tesseraref08_In.calls k3 _ _ l2 (wrap64 ((wrap64 (2 * x14_3)) + 1)) t270 _ ?side1 ?side2 A34.out).mono ?_); (case side1 => repeat (first | exact (Kd.C_below HR2.out (by repeat (first | (with_reducible first | exact HB.out | apply below_alloc | apply pw_below_drewN | apply below_drew1) | exact HB.out))) | (with_reducible refine Kd.C_alloc ?_ _) | (with_reducible refine Kd.C_drewN ?_ _) | (with_reducible refine Kd.C_drew ?_))); (case side2 => exact HC2.out); rintro e w' ⟨rfl, ⟨nd, rfl⟩⟩))
                          go_meet
                          case rel => exact ⟨_, (t270), (by first | rfl | (simp; done) | (simp [*]; done)), H', ⟨by have := HJ5.out; have := HJ14.out; have := HK3.out; first | omega | exact Nat.le_refl _⟩, ⟨by (with_reducible repeat (first | apply Kd.R_alloc | apply Kd.R_drewN | apply Kd.R_drew)); exact HO_11.out⟩, ⟨by repeat (first | (with_reducible first | exact HB.out | apply below_alloc | apply pw_below_drewN | apply below_drew1) | exact HB.out)⟩⟩
                        · replace c33 := Bool.eq_false_iff.mpr c33
                          subst c33
                          have H1 : (tesseralaw08_DamageParts.j3 k3 a0 a1 l2 t264 x13_3 x14_3 false) = some r := by rw [if_neg (show ¬ (false = true) by decide)] at H; exact H
                          clear H
                          have H := H1
                          clear H1
                          have H' := Aside0.mk H
                          clear H
                          go_wp2_with (first | ((with_reducible refine gate_callee (f := 9) rfl ?_); refine goesL_ (some 87) rfl rfl Tryd.func9 (by kernel_rfl) rfl #[.slice A2 l2.length c2, .int .i64 (wrap64 (2 * x14_3))] rfl (by (try simp only [List.map_toArray, List.map_cons, List.map_nil]); first | done | rfl | (simp only [List.length_drop, List.length_take]; rfl)) ?_; (with_reducible refine (tesseraref08_In.calls k3 _ _ l2 (wrap64 (2 * x14_3)) false _ ?side1 ?side2 A32.out).mono ?_); (case side1 => repeat (first | exact (Kd.C_below HR2.out HB.out) | (with_reducible refine Kd.C_alloc ?_ _) | (with_reducible refine Kd.C_drewN ?_ _) | (with_reducible refine Kd.C_drew ?_))); (case side2 => exact HC2.out); rintro e w' ⟨rfl, ⟨nd, rfl⟩⟩; refine ⟨_, rfl, ?_⟩))
                          go_meet
                          case rel => exact ⟨_, (false), (by first | rfl | (simp; done) | (simp [*]; done)), H', ⟨by have := HJ5.out; have := HJ14.out; have := HK3.out; first | omega | exact Nat.le_refl _⟩, ⟨by (with_reducible repeat (first | apply Kd.R_alloc | apply Kd.R_drewN | apply Kd.R_drew)); exact HO_11.out⟩, ⟨by repeat (first | (with_reducible first | exact HB.out | apply below_alloc | apply pw_below_drewN | apply below_drew1) | exact HB.out)⟩⟩
                      case rest =>
                        clear HC31
                        try clear c1
                        try clear c2
                        try clear p2
                        try clear q2
                        try clear c3
                        try clear c4
                        try clear c5
                        try clear c6
                        try clear p6
                        try clear c7
                        try clear c9
                        try clear c11
                        try clear c12
                        try clear q20
                        try clear c21
                        try clear c21b0
                        try clear q22
                        try clear c23
                        try clear c23b0
                        try clear q24
                        try clear c25
                        try clear c25b0
                        try clear c26
                        try clear c26b0
                        try clear c26b1
                        try clear c29
                        try clear c30
                        try clear c30b0
                        try clear c33
                        try clear p2
                        try clear p6
                        try clear q2
                        try clear q20
                        try clear q22
                        try clear q24
                        obtain ⟨kq, x94_30, rfl, HA, HJ30, HO_11, HB⟩ := hcut
                        cases kq with
                        | zero => exact absurd HA.out (by simp [tesseralaw08_DamageParts.j3])
                        | succ kj30 =>
                          have H := HA.out
                          clear HA
                          first | rw [tesseralaw08_DamageParts.j3] at H | simp only [tesseralaw08_DamageParts.j3] at H
                          by_cases c35 : x94_30 = true
                          · subst c35
                            have H1 : (if x13_3 ≥ (t264.length : Int) then (some false) else (if 0 ≤ x13_3 then (if x13_3 < (t264.length : Int) then (if (rd t264 x13_3) = x14_3 then (tesseralaw08_DamageParts.l0 kj30 a0 a1 l2 t264 (wrap64 (x13_3 + 1)) (wrap64 (x14_3 + 1))) else (some false)) else (none)) else (none))) = some r := by rw [if_pos rfl] at H; exact H
                            clear H
                            have H := H1
                            clear H1
                            by_cases c36 : x13_3 ≥ (t264.length : Int)
                            · rw [if_pos c36] at H
                              have c36b0 : decide ((t264.length : Int) ≤ x13_3) = true := decide_eq_true c36
                              clear c36
                              exact absurd ((Option.some.inj H).trans HT.out) (by decide)
                            · rw [if_neg c36] at H
                              have c36b0 : decide ((t264.length : Int) ≤ x13_3) = false := decide_eq_false c36
                              clear c36
                              by_cases c37 : 0 ≤ x13_3
                              · rw [if_pos c37] at H
                                have c37b0 : decide (0 ≤ x13_3) = true := decide_eq_true c37
                                clear c37
                                by_cases c38 : x13_3 < (t264.length : Int)
                                · rw [if_pos c38] at H
                                  have c38b0 : decide (x13_3 < (t264.length : Int)) = true := decide_eq_true c38
                                  clear c38
                                  by_cases c39 : (rd t264 x13_3) = x14_3
                                  · rw [if_pos c39] at H
                                    have c39b0 : ((rd t264 x13_3) == x14_3) = true := beq_iff_eq.mpr c39
                                    have c39b1 : ((rd t264 x13_3) != x14_3) = false := bne_eq_false_iff_eq.mpr c39
                                    clear c39
                                    have H' := Aside0.mk H
                                    clear H
                                    obtain ⟨Ao40, co40, eo40⟩ := Kd.R_slice HO_11.out
                                    subst eo40
                                    have p271 : 0 ≤ (x13_3 : Int) := of_decide_eq_true (by first | (with_reducible assumption) | assumption)
                                    have q271 : x13_3 < (t264.length : Int) := of_decide_eq_true (by first | (with_reducible assumption) | assumption)
                                    obtain ⟨ad271, e271, hx271_0⟩ := Kd.at_int (Kd.R_reads' HO_11.out).2.2 x13_3 p271 q271
                                    cases e271
                                    replace p271 := eq_true p271
                                    replace q271 := eq_true q271
                                    go_wp2
                                    go_roundg kj30
                                    case measure => have := HJ5.out; have := HJ14.out; have := HK3.out; have := HJ30.out; omega
                                    case rel => exact ⟨(wrap64 (x13_3 + 1)), (wrap64 (x14_3 + 1)), (by first | rfl | (simp; done) | (simp [*]; done)), (by first | rfl | (simp; done) | (simp [*]; done)), H', ⟨by have := HJ5.out; have := HJ14.out; have := HK3.out; have := HJ30.out; omega⟩, ⟨by (with_reducible repeat (first | apply Kd.R_alloc | apply Kd.R_drewN | apply Kd.R_drew)); exact HO_11.out⟩, ⟨by repeat (first | (with_reducible first | exact HB.out | apply below_alloc | apply pw_below_drewN | apply below_drew1) | exact HB.out)⟩⟩
                                  · rw [if_neg c39] at H
                                    have c39b0 : ((rd t264 x13_3) == x14_3) = false := beq_eq_false_iff_ne.mpr c39
                                    have c39b1 : ((rd t264 x13_3) != x14_3) = true := bne_iff_ne.mpr c39
                                    exact absurd ((Option.some.inj H).trans HT.out) (by decide)
                                · rw [if_neg c38] at H
                                  exact absurd H (by simp)
                              · rw [if_neg c37] at H
                                exact absurd H (by simp)
                          · replace c35 := Bool.eq_false_iff.mpr c35
                            subst c35
                            have H1 : (tesseralaw08_DamageParts.l0 kj30 a0 a1 l2 t264 x13_3 (wrap64 (x14_3 + 1))) = some r := by rw [if_neg (show ¬ (false = true) by decide)] at H; exact H
                            clear H
                            have H := H1
                            clear H1
                            have H' := Aside0.mk H
                            clear H
                            go_wp2
                            go_roundg kj30
                            case measure => have := HJ5.out; have := HJ14.out; have := HK3.out; have := HJ30.out; omega
                            case rel => exact ⟨(x13_3), (wrap64 (x14_3 + 1)), (by first | rfl | (simp; done) | (simp [*]; done)), (by first | rfl | (simp; done) | (simp [*]; done)), H', ⟨by have := HJ5.out; have := HJ14.out; have := HK3.out; have := HJ30.out; omega⟩, ⟨by (with_reducible repeat (first | apply Kd.R_alloc | apply Kd.R_drewN | apply Kd.R_drew)); exact HO_11.out⟩, ⟨by repeat (first | (with_reducible first | exact HB.out | apply below_alloc | apply pw_below_drewN | apply below_drew1) | exact HB.out)⟩⟩
                    · rw [if_neg c30] at H
                      have c30b0 : decide (x14_3 < (wrap64 (a0 + a1))) = false := decide_eq_false c30
                      clear c30
                      obtain rfl := Option.some.inj H
                      obtain ⟨Ao41, co41, eo41⟩ := Kd.R_slice HO_11.out
                      subst eo41
                      go_wp2
                      go_ret
                      exact ⟨by first | rfl | (simp [errW_none, errW_some] <;> rfl) | (simp [*, errW_none, errW_some] <;> rfl), by repeat (first | (with_reducible first | exact HB.out | apply below_alloc | apply pw_below_drewN | apply below_drew1) | exact HB.out)⟩
  · replace c5 := Bool.eq_false_iff.mpr c5
    subst c5
    have H1 : (some false) = some r := by rw [if_neg (show ¬ (false = true) by decide)] at H; exact H
    clear H
    have H := H1
    clear H1
    exact absurd ((Option.some.inj H).trans HT.out) (by decide)

end Go.Proofs.YtndnedjclbigiaaDoor.F

namespace Go.Proofs.YtndnedjclbigiaaDoor.Lin
open Go.RowKit Go.Proofs.YtndnedjclbigiaaDoorW.PrintWords Go.Proofs.YtndnedjclbigiaaDoorW.PrintLast Go.Proofs.YtndnedjclbigiaaDoor.F Go.Proofs.YtndnedjclbigiaaDoor.Plain Go.Proofs.YtndnedjclbigiaaDoor.D
set_option linter.unusedVariables false
attribute [local instance] linErrs

theorem good_of_adj {n : Nat} {l : List Int} (h : ∀ j (hj : j < l.length), (0 ≤ l[j] ∧ l[j] < (n : Int)) ∧ (∀ h0 : 0 < j, l[j - 1]'(by omega) < l[j])) : GoodL n l := by
  refine ⟨fun x hx => ?_, List.pairwise_iff_getElem.2 ?_⟩
  · obtain ⟨i, hi, rfl⟩ := List.getElem_of_mem hx
    exact (h i hi).1
  · have key : ∀ (e i : Nat) (h1 : i + e + 1 < l.length), l[i]'(by omega) < l[i + e + 1] := by
      intro e
      induction e with
      | zero => intro i h1; exact (h (i + 1) h1).2 (by omega)
      | succ e ih =>
        intro i h1
        have a1 := ih i (by omega)
        have a2 := (h (i + (e + 1) + 1) h1).2 (by omega)
        exact Int.lt_trans a1 a2
    intro i j hi hj hij
    obtain ⟨e, rfl⟩ : ∃ e, j = i + e + 1 := ⟨j - i - 1, by omega⟩
    exact key e i hj
section
variable {a b : Nat} {l : List Int}
theorem goodf_l0 (hab : a + b ≤ 16) (hlen : l.length ≤ 1000000000000000) : ∀ (d i : Nat) (K : Nat), i + d = l.length → d < K →
    (∀ j (hj : j < l.length), j < i → (0 ≤ l[j] ∧ l[j] < ((2 * (a + b) : Nat) : Int)) ∧ (∀ h0 : 0 < j, l[j - 1]'(by omega) < l[j])) →
    ∃ B : Bool, tesseraref08_Good.l0 K (a : Int) (b : Int) l l (l.length : Int) (i : Int) = some B ∧ (B = true → GoodL (2 * (a + b)) l) := by
  intro d
  have hw : wrap64 (2 * (wrap64 ((a : Int) + (b : Int)))) = ((2 * (a + b) : Nat) : Int) := by unfold wrap64; omega
  induction d with
  | zero =>
    intro i K hi hK h
    obtain ⟨K, rfl⟩ : ∃ m, K = m + 1 := ⟨K - 1, by omega⟩
    exact ⟨true, by rw [tesseraref08_Good.l0, if_neg (by omega)], fun _ => good_of_adj (fun j hj => h j hj (by omega))⟩
  | succ d ih =>
    intro i K hi hK h
    obtain ⟨K, rfl⟩ : ∃ m, K = m + 1 := ⟨K - 1, by omega⟩
    have hil : i < l.length := by omega
    have hwi : wrap64 ((i : Int) + 1) = ((i + 1 : Nat) : Int) := by unfold wrap64; omega
    rw [tesseraref08_Good.l0, if_pos (by omega), if_pos (by omega), if_pos (by omega), rd_nat hil, hw, hwi]
    by_cases h1 : l[i] < 0
    · rw [if_pos h1]; exact ⟨false, rfl, by simp⟩
    rw [if_neg h1]
    by_cases h2 : l[i] ≥ ((2 * (a + b) : Nat) : Int)
    · rw [if_pos h2]; exact ⟨false, rfl, by simp⟩
    rw [if_neg h2]
    by_cases h0 : (i : Int) > 0
    · have hwm : wrap64 ((i : Int) - 1) = ((i - 1 : Nat) : Int) := by unfold wrap64; omega
      rw [if_pos h0, hwm, if_pos (by omega), if_pos (by omega), rd_nat (show i - 1 < l.length by omega)]
      by_cases h3 : l[i - 1]'(by omega) ≥ l[i]
      · rw [if_pos h3]; exact ⟨false, rfl, by simp⟩
      · rw [if_neg h3]
        refine ih (i + 1) K (by omega) (by omega) (fun j hj hji => ?_)
        by_cases e : j = i
        · subst e; exact ⟨⟨by omega, by omega⟩, fun _ => by omega⟩
        · exact h j hj (by omega)
    · rw [if_neg h0]
      refine ih (i + 1) K (by omega) (by omega) (fun j hj hji => ?_)
      by_cases e : j = i
      · subst e; exact ⟨⟨by omega, by omega⟩, fun _ => by omega⟩
      · exact h j hj (by omega)
theorem goodf (hab : a + b ≤ 16) (hlen : l.length ≤ 1000000000000000) (K : Nat) (hK : l.length < K) : ∃ B : Bool, tesseraref08_Good.f K (a : Int) (b : Int) l = some B ∧ (B = true → GoodL (2 * (a + b)) l) := by
  unfold tesseraref08_Good.f
  exact goodf_l0 hab hlen l.length 0 K (by omega) hK (fun j hj h => by omega)
end
theorem inf_l0 {l : List Int} (x : Int) (hlen : l.length ≤ 1000000000000000) : ∀ (d i : Nat) (K : Nat), i + d = l.length → d < K → tesseraref08_In.l0 K x l (l.length : Int) (i : Int) = some (decide (x ∈ l.drop i)) := by
  intro d
  induction d with
  | zero =>
    intro i K hi hK
    obtain ⟨K, rfl⟩ : ∃ m, K = m + 1 := ⟨K - 1, by omega⟩
    rw [tesseraref08_In.l0, if_neg (by omega), List.drop_eq_nil_of_le (by omega)]
    simp
  | succ d ih =>
    intro i K hi hK
    obtain ⟨K, rfl⟩ : ∃ m, K = m + 1 := ⟨K - 1, by omega⟩
    have hil : i < l.length := by omega
    have hwi : wrap64 ((i : Int) + 1) = ((i + 1 : Nat) : Int) := by unfold wrap64; omega
    rw [tesseraref08_In.l0, if_pos (by omega), if_pos (by omega), if_pos (by omega), rd_nat hil, hwi, List.drop_eq_getElem_cons hil]
    by_cases h : l[i] = x
    · rw [if_pos h]; simp [h]
    · rw [if_neg h, ih (i + 1) K (by omega) (by omega)]
      congr 1
      refine decide_eq_decide.2 ?_
      rw [List.mem_cons]
      exact ⟨.inr, fun e => e.resolve_left (fun e => h e.symm)⟩
theorem inf {l : List Int} (x : Int) (hlen : l.length ≤ 1000000000000000) (K : Nat) (hK : l.length < K) : tesseraref08_In.f K l x = some (decide (x ∈ l)) := by
  unfold tesseraref08_In.f
  exact inf_l0 x hlen l.length 0 K (by omega) hK
theorem samef_l0 {l : List Int} (hlen : l.length ≤ 1000000000000000) : ∀ (d i : Nat) (K : Nat), i + d = l.length → d < K → tesseranum_SameInts.l0 K l l (l.length : Int) (i : Int) = some true := by
  intro d
  induction d with
  | zero =>
    intro i K hi hK
    obtain ⟨K, rfl⟩ : ∃ m, K = m + 1 := ⟨K - 1, by omega⟩
    rw [tesseranum_SameInts.l0, if_neg (by omega)]
  | succ d ih =>
    intro i K hi hK
    obtain ⟨K, rfl⟩ : ∃ m, K = m + 1 := ⟨K - 1, by omega⟩
    have hwi : wrap64 ((i : Int) + 1) = ((i + 1 : Nat) : Int) := by unfold wrap64; omega
    rw [tesseranum_SameInts.l0, if_pos (by omega), if_pos (by omega), if_pos (by omega), if_pos (by omega), if_pos rfl, hwi]
    exact ih (i + 1) K (by omega) (by omega)
theorem samef {l : List Int} (hlen : l.length ≤ 1000000000000000) (K : Nat) (hK : l.length < K) : tesseranum_SameInts.f K l l = some true := by
  unfold tesseranum_SameInts.f
  rw [if_pos rfl]
  exact samef_l0 hlen l.length 0 K (by omega) hK

theorem sorted_ext {l m : List Int} (hl : l.Pairwise (· < ·)) (hm : m.Pairwise (· < ·)) (h : ∀ x, x ∈ l ↔ x ∈ m) : l = m := by
  have hp : l.Perm m := (List.perm_ext_iff_of_nodup (hl.imp (fun {a b} h => by omega)) (hm.imp (fun {a b} h => by omega))).2 h
  exact List.Perm.eq_of_pairwise (le := fun a b => a < b) (fun a b _ _ h1 h2 => by omega) hl hm hp
theorem leftL_good (n : Nat) (l : List Int) : GoodL n (leftL n l) := ⟨fun x hx => (leftL_mem.1 hx).1, leftL_sorted n l⟩
theorem left_left {n : Nat} {l : List Int} (h : GoodL n l) : leftL n (leftL n l) = l :=
  sorted_ext (leftL_sorted _ _) h.2 (fun x => by
    rw [leftL_mem, leftL_mem]
    constructor
    · intro e
      exact Classical.byContradiction (fun hn => e.2 ⟨e.1, hn⟩)
    · intro hx
      exact ⟨h.1 x hx, fun e => e.2 hx⟩)
theorem left_count {n : Nat} {l : List Int} (h : GoodL n l) : (leftN n l).length + l.length = n := by
  have h1 : (l.map Int.toNat).Nodup := by
    rw [List.Nodup, List.pairwise_map]
    refine List.Pairwise.imp_of_mem (fun {a b} ha hb hab => ?_) h.2
    have := h.1 a ha
    have := h.1 b hb
    omega
  have h2 := mem_count n (l.map Int.toNat) h1 (fun d hd => by
    obtain ⟨x, hx, rfl⟩ := List.mem_map.1 hd
    have := h.1 x hx; omega)
  have h3 := filter_not (fun j : Nat => decide (j ∈ l.map Int.toNat)) (List.range n)
  rw [h2, List.length_map, List.length_range] at h3
  have h4 : leftN n l = (List.range n).filter (fun j => !decide (j ∈ l.map Int.toNat)) := by
    unfold leftN
    refine List.filter_congr (fun j _ => ?_)
    rw [← decide_not]
    refine decide_eq_decide.2 (not_congr ?_)
    rw [List.mem_map]
    constructor
    · intro hj; exact ⟨_, hj, by omega⟩
    · rintro ⟨x, hx, rfl⟩
      have := h.1 x hx
      rwa [Int.toNat_of_nonneg this.1]
  rw [h4]; omega

/-- Who is in the list of shards that lost both. -/
theorem mem_wscan : ∀ (l : List Int) (p : Option Int) (x : Int), l.Pairwise (· < ·) → (∀ q, p = some q → ∀ y, y ∈ l → q < y) → (x ∈ wscan p l ↔ ∃ h, h ∈ l ∧ h % 2 = 1 ∧ x = h / 2 ∧ (h - 1 ∈ l ∨ p = some (h - 1)))
  | [], p, x, _, _ => by simp [wscan]
  | h :: t, p, x, hs, hp => by
    have hs' := List.pairwise_cons.1 hs
    rw [wscan, List.mem_append, mem_wscan t (some h) x hs'.2 (fun q e y hy => by cases e; exact hs'.1 y hy)]
    constructor
    · rintro (h1 | ⟨g, hg, h2, h3, h4⟩)
      · by_cases c : h % 2 = 1 ∧ p = some (h - 1)
        · rw [if_pos c] at h1
          exact ⟨h, List.mem_cons_self, c.1, by simpa using h1, .inr c.2⟩
        · rw [if_neg c] at h1; cases h1
      · refine ⟨g, List.mem_cons_of_mem _ hg, h2, h3, .inl ?_⟩
        rcases h4 with h4 | h4
        · exact List.mem_cons_of_mem _ h4
        · rw [← Option.some.inj h4]; exact List.mem_cons_self
    · rintro ⟨g, hg, h2, h3, h4⟩
      rcases List.mem_cons.1 hg with e | hg
      · subst e
        left
        rcases h4 with h4 | h4
        · exfalso
          rcases List.mem_cons.1 h4 with e | e
          · omega
          · have := hs'.1 _ e; omega
        · rw [if_pos ⟨h2, h4⟩, h3]; simp
      · right
        refine ⟨g, hg, h2, h3, ?_⟩
        rcases h4 with h4 | h4
        · rcases List.mem_cons.1 h4 with e | e
          · right; rw [e]
          · exact .inl e
        · exfalso
          have a1 := hp _ h4 h List.mem_cons_self
          have a2 := hs'.1 g hg
          omega
theorem wscan_sorted : ∀ (l : List Int) (p : Option Int), l.Pairwise (· < ·) → (∀ q, p = some q → ∀ y, y ∈ l → q < y) → (wscan p l).Pairwise (· < ·)
  | [], p, _, _ => List.Pairwise.nil
  | h :: t, p, hs, hp => by
    have hs' := List.pairwise_cons.1 hs
    have hp' : ∀ q, some h = some q → ∀ y, y ∈ t → q < y := fun q e y hy => by cases e; exact hs'.1 y hy
    have ih := wscan_sorted t (some h) hs'.2 hp'
    rw [wscan]
    by_cases c : h % 2 = 1 ∧ p = some (h - 1)
    · rw [if_pos c]
      refine List.pairwise_cons.2 ⟨fun x hx => ?_, ih⟩
      obtain ⟨g, hg, h2, h3, _⟩ := (mem_wscan t (some h) x hs'.2 hp').1 hx
      have := hs'.1 g hg
      omega
    · rw [if_neg c]; exact ih
/-- The shards that lost both, by number. -/
def bothN (N : Nat) (l : List Int) : List Nat := (List.range N).filter (fun s => decide (((2 * s : Nat) : Int) ∈ l) && decide (((2 * s + 1 : Nat) : Int) ∈ l))
theorem wscan_both {N : Nat} {l : List Int} (h : GoodL (2 * N) l) : wscan none l = (bothN N l).map (fun i : Nat => (i : Int)) := by
  have hp : ∀ q, (none : Option Int) = some q → ∀ y, y ∈ l → q < y := fun q e => by cases e
  refine sorted_ext (wscan_sorted l none h.2 hp) ?_ (fun x => ?_)
  · rw [List.pairwise_map]
    exact (List.Pairwise.filter _ List.pairwise_lt_range).imp (fun {a b} h => by omega)
  · rw [mem_wscan l none x h.2 hp, List.mem_map]
    constructor
    · rintro ⟨g, hg, h2, h3, h4⟩
      rcases h4 with h4 | h4
      · have hb := h.1 g hg
        have e1 : ((2 * (g / 2).toNat : Nat) : Int) = g - 1 := by omega
        have e2 : ((2 * (g / 2).toNat + 1 : Nat) : Int) = g := by omega
        refine ⟨(g / 2).toNat, ?_, by omega⟩
        unfold bothN
        rw [List.mem_filter, List.mem_range, Bool.and_eq_true, decide_eq_true_eq, decide_eq_true_eq, e1, e2]
        exact ⟨by omega, h4, hg⟩
      · cases h4
    · rintro ⟨s, hs, rfl⟩
      unfold bothN at hs
      rw [List.mem_filter, List.mem_range, Bool.and_eq_true, decide_eq_true_eq, decide_eq_true_eq] at hs
      exact ⟨_, hs.2.2, by omega, by omega, .inl (by rw [show ((2 * s + 1 : Nat) : Int) - 1 = ((2 * s : Nat) : Int) by omega]; exact hs.2.1)⟩
/-- Where a number stands in a filtered range. -/
theorem filter_at (p : Nat → Bool) (s N : Nat) (hs : s < N) (h : p s = true) : ((List.range N).filter p)[((List.range s).filter p).length]? = some s := by
  obtain ⟨m, rfl⟩ : ∃ m, N = (s + 1) + m := ⟨N - (s + 1), by omega⟩
  rw [List.range_add, List.range_succ, List.filter_append, List.filter_append, List.filter_cons_of_pos h, List.filter_nil, List.append_assoc]
  rw [List.getElem?_append_right (Nat.le_refl _), Nat.sub_self]
  rfl
end Go.Proofs.YtndnedjclbigiaaDoor.Lin

namespace Go.Proofs.YtndnedjclbigiaaDoor.Pure
open Go.RowKit Go.Proofs.YtndnedjclbigiaaDoorW.PrintWords Go.Proofs.YtndnedjclbigiaaDoorW.PrintLast Go.Proofs.YtndnedjclbigiaaDoor.F Go.Proofs.YtndnedjclbigiaaDoor.Plain Go.Proofs.YtndnedjclbigiaaDoor.Lin Go.Proofs.YtndnedjclbigiaaDoor.D
set_option linter.unusedVariables false
attribute [local instance] linErrs

theorem w_two {s N : Nat} (hs : s < N) (hN : N ≤ 16) : wrap64 (2 * (s : Int)) = ((2 * s : Nat) : Int) := by unfold wrap64; omega
theorem w_one {s N : Nat} (hs : s < N) (hN : N ≤ 16) : wrap64 (((2 * s : Nat) : Int) + 1) = ((2 * s + 1 : Nat) : Int) := by unfold wrap64; omega
theorem w_succ {s N : Nat} (hs : s < N) (hN : N ≤ 16) : wrap64 ((s : Int) + 1) = ((s + 1 : Nat) : Int) := by unfold wrap64; omega
theorem lt_rounds {n d K : Nat} (h : n ≤ 32) (hK : 2 * (d + 1) + 1100 < K + 2) : n < K + 1 := by omega
theorem next_rounds {d K : Nat} (hK : 2 * (d + 1) + 1100 < K + 2) : 2 * d + 1100 < K := by omega
theorem parts_l0 {a b : Nat} {l : List Int} (hab : a + b ≤ 16) (hl32 : l.length ≤ 32) (W : List Int) (c : Nat → Nat) (hWl : W.length = c (a + b)) (hbl : ∀ s, c s ≤ s)
    (hat : ∀ s, s < a + b → ((2 * s : Nat) : Int) ∈ l → ((2 * s + 1 : Nat) : Int) ∈ l → c s < W.length ∧ rd W (c s : Int) = (s : Int) ∧ c (s + 1) = c s + 1)
    (hno : ∀ s, s < a + b → ¬ (((2 * s : Nat) : Int) ∈ l ∧ ((2 * s + 1 : Nat) : Int) ∈ l) → c (s + 1) = c s) : ∀ (d s : Nat) (K : Nat), s + d = a + b → 2 * d + 1100 < K →
    tesseralaw08_DamageParts.l0 K (a : Int) (b : Int) l W (c s : Int) (s : Int) = some true := by
  have hw : wrap64 ((a : Int) + (b : Int)) = ((a + b : Nat) : Int) := by unfold wrap64; omega
  have q1 : l.length ≤ 1000000000000000 := Nat.le_trans hl32 (by decide)
  intro d
  induction d with
  | zero =>
    intro s K hi hK
    obtain ⟨K, rfl⟩ : ∃ m, K = m + 1 := ⟨K - 1, by omega⟩
    obtain rfl : s = a + b := by omega
    rw [tesseralaw08_DamageParts.l0, hw, if_neg (by omega), hWl]
    simp
  | succ d ih =>
    intro s K hi hK
    obtain ⟨K, rfl⟩ : ∃ m, K = m + 2 := ⟨K - 2, by omega⟩
    have hlK : l.length < K + 1 := lt_rounds hl32 hK
    have hK2 := next_rounds hK
    clear hK
    have hs : s < a + b := by clear q1 hlK hK2; omega
    have hsN : (s : Int) < ((a + b : Nat) : Int) := Int.ofNat_lt.2 hs
    have e1 : wrap64 (2 * (s : Int)) = ((2 * s : Nat) : Int) := w_two hs hab
    have e2 : wrap64 (((2 * s : Nat) : Int) + 1) = ((2 * s + 1 : Nat) : Int) := w_one hs hab
    have e3 : wrap64 ((s : Int) + 1) = ((s + 1 : Nat) : Int) := w_succ hs hab
    have e4 : wrap64 ((c s : Int) + 1) = ((c s + 1 : Nat) : Int) := w_succ (Nat.lt_of_le_of_lt (hbl s) hs) hab
    have hrec := ih (s + 1) K (by clear q1 hlK hK2; omega) hK2
    rw [tesseralaw08_DamageParts.l0, hw, if_pos hsN, e1, inf _ q1 _ hlK, Option.bind_some]
    by_cases h1 : ((2 * s : Nat) : Int) ∈ l
    · rw [decide_eq_true h1, if_pos rfl, e2, inf _ q1 _ hlK, Option.bind_some, tesseralaw08_DamageParts.j3, e3]
      by_cases h2 : ((2 * s + 1 : Nat) : Int) ∈ l
      · obtain ⟨g1, g2, g3⟩ := hat s hs h1 h2
        have g1' : (c s : Int) < (W.length : Int) := Int.ofNat_lt.2 g1
        rw [decide_eq_true h2, if_pos rfl, if_neg (Int.not_le.2 g1'), if_pos (Int.natCast_nonneg _), if_pos g1', g2, if_pos rfl, e4, ← g3]
        exact hrec
      · rw [decide_eq_false h2, if_neg (by decide), ← hno s hs (fun e => h2 e.2)]
        exact hrec
    · rw [decide_eq_false h1, if_neg (by decide), tesseralaw08_DamageParts.j3, e3, if_neg (by decide), ← hno s hs (fun e => h1 e.1)]
      exact hrec
theorem parts_both {a b : Nat} {l : List Int} (hab : a + b ≤ 16) (h : GoodL (2 * (a + b)) l) (hl32 : l.length ≤ 32) (K : Nat) (hK : 2 * (a + b) + 1100 < K) :
    tesseralaw08_DamageParts.l0 K (a : Int) (b : Int) l (wscan none l) 0 0 = some true := by
  have hW := wscan_both h
  have hf : ∀ (p : Nat → Bool) (t : Nat), List.filter p [t] = if p t = true then [t] else [] := fun p t => by cases h : p t <;> simp [List.filter, h]
  have hstep : ∀ s, (bothN (s + 1) l).length = (bothN s l).length + (if (decide (((2 * s : Nat) : Int) ∈ l) && decide (((2 * s + 1 : Nat) : Int) ∈ l)) = true then 1 else 0) := by
    intro s
    unfold bothN
    rw [List.range_succ, List.filter_append, hf, List.length_append]
    congr 1
    split <;> rfl
  have := parts_l0 hab hl32 (wscan none l) (fun s => (bothN s l).length) (by rw [hW, List.length_map])
    (fun s => Nat.le_trans (List.length_filter_le _ _) (by rw [List.length_range]; exact Nat.le_refl _))
    (fun s hs h1 h2 => by
      have hp : (decide (((2 * s : Nat) : Int) ∈ l) && decide (((2 * s + 1 : Nat) : Int) ∈ l)) = true := by rw [decide_eq_true h1, decide_eq_true h2]; rfl
      have hat : (bothN (a + b) l)[(bothN s l).length]? = some s := filter_at (fun s => decide (((2 * s : Nat) : Int) ∈ l) && decide (((2 * s + 1 : Nat) : Int) ∈ l)) s (a + b) hs hp
      obtain ⟨hlt, hget⟩ := List.getElem?_eq_some_iff.1 hat
      refine ⟨by rw [hW, List.length_map]; exact hlt, ?_, by rw [hstep s, if_pos hp]⟩
      rw [rd_nat (by rw [hW, List.length_map]; exact hlt)]
      simp only [hW, List.getElem_map, hget])
    (fun s hs hn => by
      have hp : ¬ (decide (((2 * s : Nat) : Int) ∈ l) && decide (((2 * s + 1 : Nat) : Int) ∈ l)) = true := by
        rw [Bool.and_eq_true, decide_eq_true_eq, decide_eq_true_eq]; exact hn
      show (bothN (s + 1) l).length = _
      rw [hstep s, if_neg hp]; rfl)
    (a + b) 0 K (Nat.zero_add _) hK
  exact this

theorem DamageParts : ∀ (a0 : Int) (a1 : Int) (l2 : List Int), (Lit.int .i64 a0).wf = true → (Lit.int .i64 a1).wf = true → l2.length ≤ maxLen → l2.length * 8 ≤ 140737488351232 → (∀ x ∈ l2, (Lit.int .i64 x).wf = true) → ∃ k, F.tesseralaw08_DamageParts.f k a0 a1 l2 = some true := by
  intro a b l ha hb hl hl8 hlw
  obtain ⟨K, hKK⟩ : ∃ K, K = l.length + 2998 := ⟨_, rfl⟩
  refine ⟨K + 2, ?_⟩
  unfold tesseralaw08_DamageParts.f
  rw [alive_ok _ (by omega), Option.bind_some, if_pos rfl]
  rcases legal_cases a b with ⟨A, B, rfl, rfl, hleg, hL, hC⟩ | ⟨hL, hC⟩
  · have hl' : (1 ≤ A ∧ 2 ≤ B) ∧ A + B ≤ 16 := by simpa [legalB] using hleg
    obtain ⟨G, hG, hGL⟩ := goodf (a := A) (b := B) (l := l) hl'.2 (by omega) (K + 2) (by omega)
    rw [hL, Option.bind_some, if_pos rfl, hG, Option.bind_some]
    rw [tesseralaw08_DamageParts.j0]
    cases G with
    | false => rw [if_pos (by rfl)]
    | true =>
      have h := hGL rfl
      have hlen := good_len h
      have hcnt := left_count h
      have hq1 : l.length ≤ 1000000000000000 := by omega
      have hq2 : l.length < K + 1 := by omega
      have hll : (leftL (2 * (A + B)) l).length = (leftN (2 * (A + B)) l).length := by rw [leftN_map, List.length_map]
      have w1 : wrap64 (((leftL (2 * (A + B)) l).length : Int) + (l.length : Int)) = ((2 * (A + B) : Nat) : Int) := by unfold wrap64; omega
      have w2 : wrap64 (2 * (wrap64 ((A : Int) + (B : Int)))) = ((2 * (A + B) : Nat) : Int) := by unfold wrap64; omega
      have n1 : isNil (none : Option Int) = true := rfl
      rw [if_neg (by decide), left_good hleg h _ (by omega), Option.bind_some]
      show (damage_Left.f _ _ _ (leftL (2 * (A + B)) l)).bind _ = _
      rw [left_good hleg (leftL_good _ l) _ (by omega), Option.bind_some, left_left h, whole_good hleg h _ (by omega), Option.bind_some, if_pos n1, if_pos n1, if_pos n1, w1, w2, if_pos rfl, samef (l := l) hq1 (K + 1) hq2, Option.bind_some]
      rw [tesseralaw08_DamageParts.j1, if_neg (by decide)]
      exact parts_both hl'.2 h (by omega) K (by omega)
  · rw [hL, Option.bind_some, if_neg (by decide)]
    rw [tesseralaw08_DamageParts.j0, if_pos rfl]

end Go.Proofs.YtndnedjclbigiaaDoor.Pure

namespace Go.Proofs.YtndnedjclbigiaaDoor.damageParts
open Go.ChangeShapes Go.WideShapes Go.ChangeAt Go.RowKit
open Go.ChangeMaps (open_string shut_string)
set_option linter.unusedVariables false
set_option linter.unusedSimpArgs false
theorem gErrParams : Tryd.prog.globalNamed "tessera/api.ErrParams" = some 3 := by kernel_rfl
theorem tErrParams : (Tryd.prog.globals[3]?).map (·.type) = some 30 := by kernel_rfl
theorem gErrShape : Tryd.prog.globalNamed "tessera/api.ErrShape" = some 0 := by kernel_rfl
theorem tErrShape : (Tryd.prog.globals[0]?).map (·.type) = some 30 := by kernel_rfl
theorem gErrHalf : Tryd.prog.globalNamed "tessera/api.ErrHalf" = some 2 := by kernel_rfl
theorem tErrHalf : (Tryd.prog.globals[2]?).map (·.type) = some 30 := by kernel_rfl
theorem gErrNumber : Tryd.prog.globalNamed "tessera/api.ErrNumber" = some 1 := by kernel_rfl
theorem tErrNumber : (Tryd.prog.globals[1]?).map (·.type) = some 30 := by kernel_rfl
theorem cellsE : Tryd.prog.cellsOf 147 = 1 := by kernel_rfl
theorem cellsT : Tryd.prog.cellsOf 9 = 1 := by kernel_rfl
theorem star : "*" ++ "errors.errorString" = "*errors.errorString" := by decide
theorem rowE (u : TypeId) (h : Tryd.prog.typeName? 3 u = some "*errors.errorString") : u = 133 :=
  typeName_ptr_named (nm := "errors.errorString") (by rw [star]; kernel_rfl) (by kernel_rfl) (by decide) u (by rw [star]; exact h)
set_option maxRecDepth 100000 in
/-- The listed sentinels, each at a place of its own. -/
theorem sentinels {W : World} (h : laidMet Tryd.prog [("tessera/api.ErrParams", Rows.laid_tessera_api_ErrParams), ("tessera/api.ErrShape", Rows.laid_tessera_api_ErrShape), ("tessera/api.ErrHalf", Rows.laid_tessera_api_ErrHalf), ("tessera/api.ErrNumber", Rows.laid_tessera_api_ErrNumber)] W) : ∃ E : Errs, @Sent E [1, 2, 4, 12] W := by
  obtain ⟨ps, ⟨g0, t0, cs0, f0, p0, q0, hg0, ht0, hv0, hd0, ⟨g1, t1, cs1, f1, p1, q1, hg1, ht1, hv1, hd1, ⟨g2, t2, cs2, f2, p2, q2, hg2, ht2, hv2, hd2, ⟨g3, t3, cs3, f3, p3, q3, hg3, ht3, hv3, hd3, hq, e3⟩, e2⟩, e1⟩, e0⟩, hnd, hrows⟩ := h
  obtain rfl := Option.some.inj (gErrParams.symm.trans hg0)
  obtain rfl := Option.some.inj (tErrParams.symm.trans ht0)
  obtain rfl := Option.some.inj (gErrShape.symm.trans hg1)
  obtain rfl := Option.some.inj (tErrShape.symm.trans ht1)
  obtain rfl := Option.some.inj (gErrHalf.symm.trans hg2)
  obtain rfl := Option.some.inj (tErrHalf.symm.trans ht2)
  obtain rfl := Option.some.inj (gErrNumber.symm.trans hg3)
  obtain rfl := Option.some.inj (tErrNumber.symm.trans ht3)
  have hq' : q3 = [] := hq
  subst hq'
  subst e3
  subst e2
  subst e1
  subst e0
  obtain ⟨l0⟩ := cs0
  have ok0 : ∀ u v, l0 = [.iface u v] → Value.okWide Tryd.prog W .any 0 u v := fun u v e => by
    subst e
    exact (hrows 3 0 (by simp [MemPlace.row])).2 u v (by simpa using World.var?_cell hg0 hv0 0)
  obtain ⟨a0, s0, rfl, hc0, hs0, hz0, rfl⟩ := errorString_of_trod Tryd.underlying30 rowE Tryd.underlying133 Tryd.underlying147 rfl rfl Tryd.underlying9 cellsE cellsT hd0 ok0
  have hcell0 : W.cell? ⟨3, 0, none⟩ = some (.iface 133 (.pointer (some a0))) := by simpa using World.var?_cell hg0 hv0 0
  have hblk0 := (hrows a0.block a0.off (by simp [MemPlace.row])).1
  obtain ⟨l1⟩ := cs1
  have ok1 : ∀ u v, l1 = [.iface u v] → Value.okWide Tryd.prog W .any 0 u v := fun u v e => by
    subst e
    exact (hrows 0 0 (by simp [MemPlace.row])).2 u v (by simpa using World.var?_cell hg1 hv1 0)
  obtain ⟨a1, s1, rfl, hc1, hs1, hz1, rfl⟩ := errorString_of_trod Tryd.underlying30 rowE Tryd.underlying133 Tryd.underlying147 rfl rfl Tryd.underlying9 cellsE cellsT hd1 ok1
  have hcell1 : W.cell? ⟨0, 0, none⟩ = some (.iface 133 (.pointer (some a1))) := by simpa using World.var?_cell hg1 hv1 0
  have hblk1 := (hrows a1.block a1.off (by simp [MemPlace.row])).1
  obtain ⟨l2⟩ := cs2
  have ok2 : ∀ u v, l2 = [.iface u v] → Value.okWide Tryd.prog W .any 0 u v := fun u v e => by
    subst e
    exact (hrows 2 0 (by simp [MemPlace.row])).2 u v (by simpa using World.var?_cell hg2 hv2 0)
  obtain ⟨a2, s2, rfl, hc2, hs2, hz2, rfl⟩ := errorString_of_trod Tryd.underlying30 rowE Tryd.underlying133 Tryd.underlying147 rfl rfl Tryd.underlying9 cellsE cellsT hd2 ok2
  have hcell2 : W.cell? ⟨2, 0, none⟩ = some (.iface 133 (.pointer (some a2))) := by simpa using World.var?_cell hg2 hv2 0
  have hblk2 := (hrows a2.block a2.off (by simp [MemPlace.row])).1
  obtain ⟨l3⟩ := cs3
  have ok3 : ∀ u v, l3 = [.iface u v] → Value.okWide Tryd.prog W .any 0 u v := fun u v e => by
    subst e
    exact (hrows 1 0 (by simp [MemPlace.row])).2 u v (by simpa using World.var?_cell hg3 hv3 0)
  obtain ⟨a3, s3, rfl, hc3, hs3, hz3, rfl⟩ := errorString_of_trod Tryd.underlying30 rowE Tryd.underlying133 Tryd.underlying147 rfl rfl Tryd.underlying9 cellsE cellsT hd3 ok3
  have hcell3 : W.cell? ⟨1, 0, none⟩ = some (.iface 133 (.pointer (some a3))) := by simpa using World.var?_cell hg3 hv3 0
  have hblk3 := (hrows a3.block a3.off (by simp [MemPlace.row])).1
  have hne0_1 : a0 ≠ a1 := by
    intro e
    rw [e] at hnd
    simp [MemPlace.row] at hnd
  have hne0_2 : a0 ≠ a2 := by
    intro e
    rw [e] at hnd
    simp [MemPlace.row] at hnd
  have hne0_3 : a0 ≠ a3 := by
    intro e
    rw [e] at hnd
    simp [MemPlace.row] at hnd
  have hne1_2 : a1 ≠ a2 := by
    intro e
    rw [e] at hnd
    simp [MemPlace.row] at hnd
  have hne1_3 : a1 ≠ a3 := by
    intro e
    rw [e] at hnd
    simp [MemPlace.row] at hnd
  have hne2_3 : a2 ≠ a3 := by
    intro e
    rw [e] at hnd
    simp [MemPlace.row] at hnd
  refine ⟨⟨fun c => if c = 1 then a0 else if c = 2 then a1 else if c = 4 then a2 else if c = 12 then a3 else default⟩, ?_⟩
  refine @Sent.mk ⟨fun c => if c = 1 then a0 else if c = 2 then a1 else if c = 4 then a2 else if c = 12 then a3 else default⟩ _ W ?_ ?_ ?_
  · intro c hc
    simp only [List.mem_cons, List.not_mem_nil, or_false] at hc
    rcases hc with rfl | rfl | rfl | rfl
    · exact hcell0
    · exact hcell1
    · exact hcell2
    · exact hcell3
  · intro c hc
    simp only [List.mem_cons, List.not_mem_nil, or_false] at hc
    rcases hc with rfl | rfl | rfl | rfl
    · exact hblk0
    · exact hblk1
    · exact hblk2
    · exact hblk3
  · intro c d hc hd e
    simp only [List.mem_cons, List.not_mem_nil, or_false] at hc hd
    rcases hc with rfl | rfl | rfl | rfl <;> rcases hd with rfl | rfl | rfl | rfl <;> first | rfl | exact absurd e hne0_1 | exact absurd e hne0_1.symm | exact absurd e hne0_2 | exact absurd e hne0_2.symm | exact absurd e hne0_3 | exact absurd e hne0_3.symm | exact absurd e hne1_2 | exact absurd e hne1_2.symm | exact absurd e hne1_3 | exact absurd e hne1_3.symm | exact absurd e hne2_3 | exact absurd e hne2_3.symm
end Go.Proofs.YtndnedjclbigiaaDoor.damageParts
