/- What some functions come to, each a function of its own text; joined out of: F9. No conditions but those in each theorem. -/
import Derived.Test.YtnnondbimdmcaaaDoorS1
import Derived.Test.YtnnondbimdmcaaaDoorS5
import Derived.Test.YtnnondbimdmcaaaDoorS2
import Derived.Test.YtnnondbimdmcaaaDoorS3
namespace Go.Proofs.YtnnondbimdmcaaaDoor.F
open Go.RowKit Go.Proofs.YtnnondbimdmcaaaDoorW.PrintWords Go.Proofs.YtnnondbimdmcaaaDoorW.PrintLast Go.Proofs.YtnnondbimdmcaaaDoorW.PrintMore
attribute [local go_sem] max2_int min2_int max_two min_two max_three min_three max_four min_four   -- for this text's walks alone
set_option linter.unusedVariables false
set_option linter.unusedSimpArgs false
set_option linter.unusedSectionVars false
open Go.Proofs.YtnnondbimdmcaaaDoor
variable [Errs]

/-! ### tesseralaw05_HalfAnyShards: function 9 -/
def tesseralaw05_HalfAnyShards.L : List Int := [1, 2, 4, 12]
mutual
def tesseralaw05_HalfAnyShards.l0 : Nat → Int → Int → List Int → Int → List Bool → List Int → Int → Option (Bool)
  | 0, _, _, _, _, _, _, _ => none
  | k + 1, x0, x1, x2, x7, x8, x9, x10 => if x10 < (wrap64 ((x2.length : Int) + x7)) then (tesseralaw05_HalfAnyShards.j1 k x0 x1 x2 x7 x8 x9 x10 (decide ((x9.length : Int) < (wrap64 (2 * x0))))) else (tesseralaw05_HalfAnyShards.j1 k x0 x1 x2 x7 x8 x9 x10 false)
def tesseralaw05_HalfAnyShards.j1 : Nat → Int → Int → List Int → Int → List Bool → List Int → Int → Bool → Option (Bool)
  | 0, _, _, _, _, _, _, _, _ => none
  | k + 1, x0, x1, x2, x7, x8, x9, x10, x43 => if x43 = true then (if x7 = 0 then (none) else (if x10 < (x2.length : Int) then (if 0 ≤ x10 then (if 0 ≤ (Int.tmod (wrap64 ((Int.tmod (rd x2 x10) x7) + x7)) x7) then (if (Int.tmod (wrap64 ((Int.tmod (rd x2 x10) x7) + x7)) x7) < (x8.length : Int) then (if (rdOf false x8 (Int.tmod (wrap64 ((Int.tmod (rd x2 x10) x7) + x7)) x7) = true) then (tesseralaw05_HalfAnyShards.l0 k x0 x1 x2 x7 x8 x9 (wrap64 (x10 + 1))) else ((some (([wrap64 (2 * (Int.tmod (wrap64 ((Int.tmod (rd x2 x10) x7) + x7)) x7)), wrap64 ((wrap64 (2 * (Int.tmod (wrap64 ((Int.tmod (rd x2 x10) x7) + x7)) x7))) + 1)] : List Int) : List Int)).bind fun y417 => (if x9.length + y417.length < 17592186044416 then (tesseralaw05_HalfAnyShards.l0 k x0 x1 x2 x7 (x8.set ((Int.tmod (wrap64 ((Int.tmod (rd x2 x10) x7) + x7)) x7) : Int).toNat true) (x9 ++ y417) (wrap64 (x10 + 1))) else (none)))) else (none)) else (none)) else (none)) else (if 0 ≤ (Int.tmod x10 x7) then (if (Int.tmod x10 x7) < (x8.length : Int) then (if (rdOf false x8 (Int.tmod x10 x7) = true) then (tesseralaw05_HalfAnyShards.l0 k x0 x1 x2 x7 x8 x9 (wrap64 (x10 + 1))) else ((some (([wrap64 (2 * (Int.tmod x10 x7)), wrap64 ((wrap64 (2 * (Int.tmod x10 x7))) + 1)] : List Int) : List Int)).bind fun y425 => (if x9.length + y425.length < 17592186044416 then (tesseralaw05_HalfAnyShards.l0 k x0 x1 x2 x7 (x8.set ((Int.tmod x10 x7) : Int).toNat true) (x9 ++ y425) (wrap64 (x10 + 1))) else (none)))) else (none)) else (none)))) else ((half_Rows.f k x0 x1).bind fun bt431 => (tesseralaw05_HalfAnyShards.l1 k x0 x7 x8 x9 bt431.2.2.2 0 bt431.1 bt431.2.1 bt431.2.2.1))
def tesseralaw05_HalfAnyShards.l1 : Nat → Int → Int → List Bool → List Int → Option Int → Int → Int → Int → List Int → Option (Bool)
  | 0, _, _, _, _, _, _, _, _, _ => none
  | k + 1, x0, x7, x8, x9, x13, x14, x438000, x438001, x438002 => if x14 < x7 then (tesseralaw05_HalfAnyShards.j3 k x0 x7 x8 x9 x13 x14 (decide ((x9.length : Int) < (wrap64 (2 * x0)))) x438000 x438001 x438002) else (tesseralaw05_HalfAnyShards.j3 k x0 x7 x8 x9 x13 x14 false x438000 x438001 x438002)
def tesseralaw05_HalfAnyShards.j3 : Nat → Int → Int → List Bool → List Int → Option Int → Int → Bool → Int → Int → List Int → Option (Bool)
  | 0, _, _, _, _, _, _, _, _, _, _ => none
  | k + 1, x0, x7, x8, x9, x13, x14, x94, x438000, x438001, x438002 => if x94 = true then (if 0 ≤ x14 then (if x14 < (x8.length : Int) then (if rdOf false x8 x14 = true then (tesseralaw05_HalfAnyShards.l1 k x0 x7 x8 x9 x13 (wrap64 (x14 + 1)) x438000 x438001 x438002) else ((some (([wrap64 (2 * x14), wrap64 ((wrap64 (2 * x14)) + 1)] : List Int) : List Int)).bind fun y440 => (if x9.length + y440.length < 17592186044416 then (tesseralaw05_HalfAnyShards.l1 k x0 x7 (x8.set (x14 : Int).toNat true) (x9 ++ y440) x13 (wrap64 (x14 + 1)) x438000 x438001 x438002) else (none)))) else (none)) else (none)) else ((mat_Take.f k x438000 x438001 x438002 x9).bind fun bt446 => ((solve_Rank.f k bt446.1 bt446.2.1 bt446.2.2.1).bind fun bt453 => (if (isNil x13) = true then (if (isNil bt446.2.2.2) = true then (if (isNil bt453.2) = true then (some (bt453.1 == (wrap64 (2 * x0)))) else (some false)) else (some false)) else (some false))))
end
def tesseralaw05_HalfAnyShards.f (k : Nat) (a0 : Int) (a1 : Int) (l2 : List Int) : Option (Bool) := (tesseralaw05_alive.f k).bind fun t406 => (if t406 = true then ((tesseraref04_Legal.f a0 a1).bind fun t407 => (if t407 = true then (if 0 ≤ (wrap64 (a0 + a1)) then (if (wrap64 (a0 + a1) : Int).toNat ≤ 281474976710656 then (tesseralaw05_HalfAnyShards.l0 k a0 a1 l2 (wrap64 (a0 + a1)) (List.replicate (wrap64 (a0 + a1) : Int).toNat false) (([] : List Int)) 0) else (none)) else (none)) else (some true))) else (some false))
theorem tesseralaw05_HalfAnyShards.mono_l : ∀ k, (∀ y0 y1 y2 y3 y4 y5 y6, LeO (tesseralaw05_HalfAnyShards.l0 k y0 y1 y2 y3 y4 y5 y6) (tesseralaw05_HalfAnyShards.l0 (k + 1) y0 y1 y2 y3 y4 y5 y6)) ∧ (∀ y0 y1 y2 y3 y4 y5 y6 y7, LeO (tesseralaw05_HalfAnyShards.j1 k y0 y1 y2 y3 y4 y5 y6 y7) (tesseralaw05_HalfAnyShards.j1 (k + 1) y0 y1 y2 y3 y4 y5 y6 y7)) ∧ (∀ y0 y1 y2 y3 y4 y5 y6 y7 y8, LeO (tesseralaw05_HalfAnyShards.l1 k y0 y1 y2 y3 y4 y5 y6 y7 y8) (tesseralaw05_HalfAnyShards.l1 (k + 1) y0 y1 y2 y3 y4 y5 y6 y7 y8)) ∧ (∀ y0 y1 y2 y3 y4 y5 y6 y7 y8 y9, LeO (tesseralaw05_HalfAnyShards.j3 k y0 y1 y2 y3 y4 y5 y6 y7 y8 y9) (tesseralaw05_HalfAnyShards.j3 (k + 1) y0 y1 y2 y3 y4 y5 y6 y7 y8 y9))
  | 0 => ⟨fun _ _ _ _ _ _ _ r h => by simp [tesseralaw05_HalfAnyShards.l0] at h, fun _ _ _ _ _ _ _ _ r h => by simp [tesseralaw05_HalfAnyShards.j1] at h, fun _ _ _ _ _ _ _ _ _ r h => by simp [tesseralaw05_HalfAnyShards.l1] at h, fun _ _ _ _ _ _ _ _ _ _ r h => by simp [tesseralaw05_HalfAnyShards.j3] at h⟩
  | k + 1 => by
    obtain ⟨ih0, ih1, ih2, ih3⟩ := tesseralaw05_HalfAnyShards.mono_l k
    refine ⟨?_, ?_, ?_, ?_⟩
    · intro y0 y1 y2 y3 y4 y5 y6
      unfold tesseralaw05_HalfAnyShards.l0
      repeat' first
      | (with_reducible exact ih0 _ _ _ _ _ _ _)
      | (with_reducible exact ih1 _ _ _ _ _ _ _ _)
      | (with_reducible exact ih2 _ _ _ _ _ _ _ _ _)
      | (with_reducible exact ih3 _ _ _ _ _ _ _ _ _ _)
      | (with_reducible exact half_Rows.mono _ _ _)
      | (with_reducible exact mat_Take.mono _ _ _ _ _)
      | (with_reducible exact solve_Rank.mono _ _ _ _)
      | (with_reducible exact tesseralaw05_alive.mono _)
      | (with_reducible exact LeO.refl _)
      | (with_reducible exact LeO.none _)
      | (with_reducible refine LeO.ite ?_ ?_)
      | (with_reducible refine LeO.bind ?_ (fun _ => ?_))
      | exact ih0 _ _ _ _ _ _ _
      | exact ih1 _ _ _ _ _ _ _ _
      | exact ih2 _ _ _ _ _ _ _ _ _
      | exact ih3 _ _ _ _ _ _ _ _ _ _
      | exact half_Rows.mono _ _ _
      | exact mat_Take.mono _ _ _ _ _
      | exact solve_Rank.mono _ _ _ _
      | exact tesseralaw05_alive.mono _
      | exact LeO.none _
      | refine LeO.ite ?_ ?_
      | refine LeO.bind ?_ (fun _ => ?_)
    · intro y0 y1 y2 y3 y4 y5 y6 y7
      unfold tesseralaw05_HalfAnyShards.j1
      repeat' first
      | (with_reducible exact ih0 _ _ _ _ _ _ _)
      | (with_reducible exact ih1 _ _ _ _ _ _ _ _)
      | (with_reducible exact ih2 _ _ _ _ _ _ _ _ _)
      | (with_reducible exact ih3 _ _ _ _ _ _ _ _ _ _)
      | (with_reducible exact half_Rows.mono _ _ _)
      | (with_reducible exact mat_Take.mono _ _ _ _ _)
      | (with_reducible exact solve_Rank.mono _ _ _ _)
      | (with_reducible exact tesseralaw05_alive.mono _)
      | (with_reducible exact LeO.refl _)
      | (with_reducible exact LeO.none _)
      | (with_reducible refine LeO.ite ?_ ?_)
      | (with_reducible refine LeO.bind ?_ (fun _ => ?_))
      | exact ih0 _ _ _ _ _ _ _
      | exact ih1 _ _ _ _ _ _ _ _
      | exact ih2 _ _ _ _ _ _ _ _ _
      | exact ih3 _ _ _ _ _ _ _ _ _ _
      | exact half_Rows.mono _ _ _
      | exact mat_Take.mono _ _ _ _ _
      | exact solve_Rank.mono _ _ _ _
      | exact tesseralaw05_alive.mono _
      | exact LeO.none _
      | refine LeO.ite ?_ ?_
      | refine LeO.bind ?_ (fun _ => ?_)
    · intro y0 y1 y2 y3 y4 y5 y6 y7 y8
      unfold tesseralaw05_HalfAnyShards.l1
      repeat' first
      | (with_reducible exact ih0 _ _ _ _ _ _ _)
      | (with_reducible exact ih1 _ _ _ _ _ _ _ _)
      | (with_reducible exact ih2 _ _ _ _ _ _ _ _ _)
      | (with_reducible exact ih3 _ _ _ _ _ _ _ _ _ _)
      | (with_reducible exact half_Rows.mono _ _ _)
      | (with_reducible exact mat_Take.mono _ _ _ _ _)
      | (with_reducible exact solve_Rank.mono _ _ _ _)
      | (with_reducible exact tesseralaw05_alive.mono _)
      | (with_reducible exact LeO.refl _)
      | (with_reducible exact LeO.none _)
      | (with_reducible refine LeO.ite ?_ ?_)
      | (with_reducible refine LeO.bind ?_ (fun _ => ?_))
      | exact ih0 _ _ _ _ _ _ _
      | exact ih1 _ _ _ _ _ _ _ _
      | exact ih2 _ _ _ _ _ _ _ _ _
      | exact ih3 _ _ _ _ _ _ _ _ _ _
      | exact half_Rows.mono _ _ _
      | exact mat_Take.mono _ _ _ _ _
      | exact solve_Rank.mono _ _ _ _
      | exact tesseralaw05_alive.mono _
      | exact LeO.none _
      | refine LeO.ite ?_ ?_
      | refine LeO.bind ?_ (fun _ => ?_)
    · intro y0 y1 y2 y3 y4 y5 y6 y7 y8 y9
      unfold tesseralaw05_HalfAnyShards.j3
      repeat' first
      | (with_reducible exact ih0 _ _ _ _ _ _ _)
      | (with_reducible exact ih1 _ _ _ _ _ _ _ _)
      | (with_reducible exact ih2 _ _ _ _ _ _ _ _ _)
      | (with_reducible exact ih3 _ _ _ _ _ _ _ _ _ _)
      | (with_reducible exact half_Rows.mono _ _ _)
      | (with_reducible exact mat_Take.mono _ _ _ _ _)
      | (with_reducible exact solve_Rank.mono _ _ _ _)
      | (with_reducible exact tesseralaw05_alive.mono _)
      | (with_reducible exact LeO.refl _)
      | (with_reducible exact LeO.none _)
      | (with_reducible refine LeO.ite ?_ ?_)
      | (with_reducible refine LeO.bind ?_ (fun _ => ?_))
      | exact ih0 _ _ _ _ _ _ _
      | exact ih1 _ _ _ _ _ _ _ _
      | exact ih2 _ _ _ _ _ _ _ _ _
      | exact ih3 _ _ _ _ _ _ _ _ _ _
      | exact half_Rows.mono _ _ _
      | exact mat_Take.mono _ _ _ _ _
      | exact solve_Rank.mono _ _ _ _
      | exact tesseralaw05_alive.mono _
      | exact LeO.none _
      | refine LeO.ite ?_ ?_
      | refine LeO.bind ?_ (fun _ => ?_)
theorem tesseralaw05_HalfAnyShards.mono : ∀ a0 a1 a2 k, LeO (tesseralaw05_HalfAnyShards.f k a0 a1 a2) (tesseralaw05_HalfAnyShards.f (k + 1) a0 a1 a2) := by
  intro a0 a1 a2 k
  obtain ⟨ih0, ih1, ih2, ih3⟩ := tesseralaw05_HalfAnyShards.mono_l k
  unfold tesseralaw05_HalfAnyShards.f
  repeat' first
      | (with_reducible exact ih0 _ _ _ _ _ _ _)
      | (with_reducible exact ih1 _ _ _ _ _ _ _ _)
      | (with_reducible exact ih2 _ _ _ _ _ _ _ _ _)
      | (with_reducible exact ih3 _ _ _ _ _ _ _ _ _ _)
      | (with_reducible exact half_Rows.mono _ _ _)
      | (with_reducible exact mat_Take.mono _ _ _ _ _)
      | (with_reducible exact solve_Rank.mono _ _ _ _)
      | (with_reducible exact tesseralaw05_alive.mono _)
      | (with_reducible exact LeO.refl _)
      | (with_reducible exact LeO.none _)
      | (with_reducible refine LeO.ite ?_ ?_)
      | (with_reducible refine LeO.bind ?_ (fun _ => ?_))
      | exact ih0 _ _ _ _ _ _ _
      | exact ih1 _ _ _ _ _ _ _ _
      | exact ih2 _ _ _ _ _ _ _ _ _
      | exact ih3 _ _ _ _ _ _ _ _ _ _
      | exact half_Rows.mono _ _ _
      | exact mat_Take.mono _ _ _ _ _
      | exact solve_Rank.mono _ _ _ _
      | exact tesseralaw05_alive.mono _
      | exact LeO.none _
      | refine LeO.ite ?_ ?_
      | refine LeO.bind ?_ (fun _ => ?_)
set_option maxHeartbeats 8000000 in
set_option maxRecDepth 100000 in
theorem tesseralaw05_HalfAnyShards.calls (k : Nat) (a0 : Int) (a1 : Int) (A2 : Option Addr) (c2 : Nat) (l2 : List Int) (r : Bool) (w : World) (hr2 : Kd.C (Kd.int .i64) w A2 l2.length l2) (hc2 : l2.length ≤ c2) (h : tesseralaw05_HalfAnyShards.f k a0 a1 l2 = some r) (hT : r = true) (hS : Sent tesseralaw05_HalfAnyShards.L w) :
    Calls Tryd.prog 9 #[.int .i64 a0, .int .i64 a1, .slice A2 l2.length c2] w fun e w' => e = .returned (.bool r) ∧ Below w.heap.size w w' := by
  have hu43 := Tryd.underlying43
  have hu27 := Tryd.underlying27
  have HR2 := Aside0.mk hr2
  have HC2 := Aside0.mk hc2
  clear hr2 hc2
  have HB := Aside0.mk (Below.refl w.heap.size w)
  have HT := Aside0.mk hT
  clear hT
  have HS := Aside0.mk hS
  clear hS
  have H : ((tesseralaw05_alive.f k).bind fun t406 => (if t406 = true then ((tesseraref04_Legal.f a0 a1).bind fun t407 => (if t407 = true then (if 0 ≤ (wrap64 (a0 + a1)) then (if (wrap64 (a0 + a1) : Int).toNat ≤ 281474976710656 then (tesseralaw05_HalfAnyShards.l0 k a0 a1 l2 (wrap64 (a0 + a1)) (List.replicate (wrap64 (a0 + a1) : Int).toNat false) (([] : List Int)) 0) else (none)) else (none)) else (some true))) else (some false))) = some r := h
  clear h
  replace H := Option.bind_eq_some_iff.mp H
  obtain ⟨t406, A40, H⟩ := H
  replace H : (if t406 = true then ((tesseraref04_Legal.f a0 a1).bind fun t407 => (if t407 = true then (if 0 ≤ (wrap64 (a0 + a1)) then (if (wrap64 (a0 + a1) : Int).toNat ≤ 281474976710656 then (tesseralaw05_HalfAnyShards.l0 k a0 a1 l2 (wrap64 (a0 + a1)) (List.replicate (wrap64 (a0 + a1) : Int).toNat false) (([] : List Int)) 0) else (none)) else (none)) else (some true))) else (some false)) = some r := H
  have A4 := Aside0.mk A40
  clear A40
  by_cases c5 : t406 = true
  · subst c5
    have H1 : ((tesseraref04_Legal.f a0 a1).bind fun t407 => (if t407 = true then (if 0 ≤ (wrap64 (a0 + a1)) then (if (wrap64 (a0 + a1) : Int).toNat ≤ 281474976710656 then (tesseralaw05_HalfAnyShards.l0 k a0 a1 l2 (wrap64 (a0 + a1)) (List.replicate (wrap64 (a0 + a1) : Int).toNat false) (([] : List Int)) 0) else (none)) else (none)) else (some true))) = some r := by rw [if_pos rfl] at H; exact H
    clear H
    have H := H1
    clear H1
    replace H := Option.bind_eq_some_iff.mp H
    obtain ⟨t407, A60, H⟩ := H
    replace H : (if t407 = true then (if 0 ≤ (wrap64 (a0 + a1)) then (if (wrap64 (a0 + a1) : Int).toNat ≤ 281474976710656 then (tesseralaw05_HalfAnyShards.l0 k a0 a1 l2 (wrap64 (a0 + a1)) (List.replicate (wrap64 (a0 + a1) : Int).toNat false) (([] : List Int)) 0) else (none)) else (none)) else (some true)) = some r := H
    have A6 := Aside0.mk A60
    clear A60
    by_cases c7 : t407 = true
    · subst c7
      have H1 : (if 0 ≤ (wrap64 (a0 + a1)) then (if (wrap64 (a0 + a1) : Int).toNat ≤ 281474976710656 then (tesseralaw05_HalfAnyShards.l0 k a0 a1 l2 (wrap64 (a0 + a1)) (List.replicate (wrap64 (a0 + a1) : Int).toNat false) (([] : List Int)) 0) else (none)) else (none)) = some r := by rw [if_pos rfl] at H; exact H
      clear H
      have H := H1
      clear H1
      obtain ⟨ji8, hji8⟩ : ∃ j_ : Int, (wrap64 (a0 + a1)) = j_ := ⟨_, rfl⟩
      replace H : (if 0 ≤ (ji8) then (if (ji8 : Int).toNat ≤ 281474976710656 then (tesseralaw05_HalfAnyShards.l0 k a0 a1 l2 ji8 (List.replicate (ji8 : Int).toNat false) (([] : List Int)) 0) else (none)) else (none)) = some r := by first | (rw [hji8] at H; exact H) | (simp only [hji8] at H ⊢; exact H)
      (try rw [hji8] at A4)
      (try rw [hji8] at A6)
      have hji8w : (IntKind.i64.wrap (a0 + a1)) = ji8 := (i64_w _).trans hji8
      by_cases c9 : 0 ≤ (ji8)
      · rw [if_pos c9] at H
        have c9b0 := eq_true c9
        have c9b1 : decide (0 ≤ (ji8)) = true := decide_eq_true c9
        clear c9
        by_cases c10 : (ji8 : Int).toNat ≤ 281474976710656
        · rw [if_pos c10] at H
          have c10b0 := eq_true c10
          have c10b1 : decide ((ji8 : Int).toNat ≤ 281474976710656) = true := decide_eq_true c10
          clear c10
          obtain ⟨y408, hy408⟩ : ∃ y_ : List Bool, y_ = (List.replicate (ji8 : Int).toNat false) := ⟨_, rfl⟩
          replace H : (tesseralaw05_HalfAnyShards.l0 k a0 a1 l2 ji8 y408 (([] : List Int)) 0) = some r := by first | (rw [hy408]; with_reducible exact H) | (have H2_ := (Option.bind_some _ _).symm.trans H; rw [hy408]; with_reducible exact H2_) | (have H2_ := (Option.bind_some _ _).symm.trans H; with_reducible exact H2_) | with_reducible exact H | (rw [hy408]; exact H) | exact H
          have Ny408 := Aside0.mk hy408
          clear hy408
          obtain ⟨y411, hy411⟩ : ∃ y_ : List Int, y_ = (([] : List Int)) := ⟨_, rfl⟩
          replace H : (tesseralaw05_HalfAnyShards.l0 k a0 a1 l2 ji8 y408 y411 0) = some r := by first | (rw [hy411]; with_reducible exact H) | (have H2_ := (Option.bind_some _ _).symm.trans H; rw [hy411]; with_reducible exact H2_) | (have H2_ := (Option.bind_some _ _).symm.trans H; with_reducible exact H2_) | with_reducible exact H | (rw [hy411]; exact H) | exact H
          have Ny411 := Aside0.mk hy411
          clear hy411
          have H' := Aside0.mk H
          clear H
          go_enter Tryd.func9, Tryd.ntmps9
          go_wp2_with (first | ((with_reducible refine gate_callee (f := 10) rfl ?_); refine goesL_ (some 19) rfl rfl Tryd.func10 (by kernel_rfl) rfl #[] rfl (by (try simp only [List.map_toArray, List.map_cons, List.map_nil]); first | done | rfl | (simp only [List.length_drop, List.length_take]; rfl)) ?_; (with_reducible refine (tesseralaw05_alive.calls k  true _ A4.out (Sent.sub (show ∀ c, c ∈ tesseralaw05_alive.L → c ∈ tesseralaw05_HalfAnyShards.L by decide) (Sent.below HS.out (by repeat (first | (with_reducible first | exact HB.out | apply below_alloc | apply pw_below_drewN | apply below_drew1) | exact HB.out))))).mono ?_); rintro e w11 ⟨rfl, hb⟩; refine ⟨_, rfl, ?_⟩; have n0_ := Aside0.mk (below_step (by repeat (first | (with_reducible first | exact HB.out | apply below_alloc | apply pw_below_drewN | apply below_drew1) | exact HB.out)) hb); clear HB; have HB := n0_; clear n0_; (try clear hb); (try clear hb2); (try clear hk); (try clear hi)) | ((with_reducible refine gate_callee (f := 11) rfl ?_); refine goesL_ (some 23) rfl rfl Tryd.func11 (by kernel_rfl) rfl #[.int .i64 a0, .int .i64 a1] rfl (by (try simp only [List.map_toArray, List.map_cons, List.map_nil]); first | done | rfl | (simp only [List.length_drop, List.length_take]; rfl)) ?_; (with_reducible refine (tesseraref04_Legal.calls a0 a1 true _ A6.out).mono ?_); rintro e w' ⟨rfl, ⟨nd, rfl⟩⟩; refine ⟨_, rfl, ?_⟩) | ((with_reducible refine gate_dst (N := 29) rfl ?_); (try (refine gate_guard (by rfl) ?_; dsimp only)); refine Kd.R_make Kd.bool _ 4 rfl (N := 29) rfl 61 _ _ rfl ji8 rfl rfl Tryd.underlying61 (.bool false) 1 info4 rfl (by decide) (by omega) false (ok := fun _ => True) (okp := fun _ => True) rfl (fun _ hk => hk) trivial (of_decide_eq_true (by first | (with_reducible assumption) | assumption)) (Nat.le_trans (Nat.mul_le_mul_right _ (of_decide_eq_true (by first | (with_reducible assumption) | assumption) : ji8.toNat ≤ 281474976710656)) (by omega)) (Below.refl _ _) (Nat.le_refl _) ?_; intro v409 w12 ho13 hb hg_ hnew_; clear hg_ hnew_; (first | rw [← Ny408.out] at ho13 | (simp only [Int.reduceToNat] at ho13; rw [← Ny408.out] at ho13)); have n0_ := Aside0.mk (Kd.R_lower ho13 (below_size (by repeat (first | (with_reducible first | exact HB.out | apply below_alloc | apply pw_below_drewN | apply below_drew1) | exact HB.out)))); have n1_ := Aside0.mk (below_step (by repeat (first | (with_reducible first | exact HB.out | apply below_alloc | apply pw_below_drewN | apply below_drew1) | exact HB.out)) hb); clear HB; have HO410 := n0_; have HB := n1_; clear n0_ n1_; clear hb ho13) | ((with_reducible refine gate_dst (N := 30) rfl ?_); (try (refine gate_guard (by rfl) ?_; dsimp only)); refine Kd.R_lit (Kd.int .i64) _ 3 ?hg (N := 30) ?hd (xs := ([] : List Int)) (inner := []) (ok := fun _ => True) (okp := fun _ => True) ?hr ?hp (fun _ hk => hk) trivial (Below.refl _ _) (Nat.le_refl _) (by simp) ?_; (case hd => rfl); (case hg => rfl); (case hr => first | (go_simp; done) | (go_simp; rfl)); (case hp => exact (Reps.none _ _)); intro v412 w14 ho15 hb hg_ hnew_; clear hg_ hnew_; (first | rw [← Ny411.out] at ho15 | (simp only [Int.reduceToNat] at ho15; rw [← Ny411.out] at ho15)); have n0_ := Aside0.mk (Kd.R_below (by (with_reducible repeat (first | apply Kd.R_alloc | apply Kd.R_drewN | apply Kd.R_drew)); exact HO410.out) hb); have n1_ := Aside0.mk (Kd.R_lower ho15 (below_size (by repeat (first | (with_reducible first | exact HB.out | apply below_alloc | apply pw_below_drewN | apply below_drew1) | exact HB.out)))); have n2_ := Aside0.mk (below_step (by repeat (first | (with_reducible first | exact HB.out | apply below_alloc | apply pw_below_drewN | apply below_drew1) | exact HB.out)) hb); clear HO410; clear HB; have HO410 := n0_; have HO413 := n1_; have HB := n2_; clear n0_ n1_ n2_; clear hb ho15))
          go_loopg [9, 10] k (fun kq v9 v10 w' => ∃ (x8_1 : List Bool) (x9_1 : List Int) (x10_1 : Int), v10 = .int .i64 x10_1 ∧ Aside0 (tesseralaw05_HalfAnyShards.l0 kq a0 a1 l2 ji8 x8_1 x9_1 x10_1 = some r) ∧ Aside0 (kq ≤ k) ∧ Aside0 (Kd.R Kd.bool 4 w' w.heap.size (fun _ => True) v409 x8_1) ∧ Aside0 (Kd.R (Kd.int .i64) 3 w' w.heap.size (fun _ => True) v9 x9_1) ∧ Aside0 (Below w.heap.size w w'))
          case atStart => exact ⟨(y408), (y411), (0), (by first | rfl | (simp; done) | (simp [*]; done)), H', ⟨Nat.le_refl _⟩, ⟨by (with_reducible repeat (first | apply Kd.R_alloc | apply Kd.R_drewN | apply Kd.R_drew)); exact HO410.out⟩, ⟨by (with_reducible repeat (first | apply Kd.R_alloc | apply Kd.R_drewN | apply Kd.R_drew)); exact HO413.out⟩, ⟨by repeat (first | (with_reducible first | exact HB.out | apply below_alloc | apply pw_below_drewN | apply below_drew1) | exact HB.out)⟩⟩
          case round =>
            clear H'
            try clear c1
            try clear c2
            try clear p2
            try clear c5
            try clear p6
            try clear c7
            try clear c9
            try clear c9b0
            try clear c9b1
            try clear c10
            try clear c10b0
            try clear c10b1
            try clear c11
            obtain ⟨x8_1, x9_1, x10_1, rfl, HA, HK1, HO_8, HO_9, HB⟩ := hrel
            cases gk with
            | zero => exact absurd HA.out (by simp [tesseralaw05_HalfAnyShards.l0])
            | succ k1 =>
              have H := HA.out
              clear HA
              first | rw [tesseralaw05_HalfAnyShards.l0] at H | simp only [tesseralaw05_HalfAnyShards.l0] at H
              have HC16 := Aside0.mk H
              clear H
              go_upto_region 9 with (fail)
              go_cut [43] (fun v43 wc => ∃ (kq : Nat) (x43_15 : Bool), v43 = .bool x43_15 ∧ Aside0 (tesseralaw05_HalfAnyShards.j1 kq a0 a1 l2 ji8 x8_1 x9_1 x10_1 x43_15 = some r) ∧ Aside0 (kq ≤ k1) ∧ Aside0 (Kd.R Kd.bool 4 wc w.heap.size (fun _ => True) v409 x8_1) ∧ Aside0 (Kd.R (Kd.int .i64) 3 wc w.heap.size (fun _ => True) u9 x9_1) ∧ Aside0 (Below w.heap.size w wc))
              case first =>
                have H := HC16.out
                clear HC16
                by_cases c17 : x10_1 < (wrap64 ((l2.length : Int) + ji8))
                · rw [if_pos c17] at H
                  have c17b0 : decide (x10_1 < (wrap64 ((l2.length : Int) + ji8))) = true := decide_eq_true c17
                  clear c17
                  (first | rw [c17b0] | (simp only [i64_w, i32_w]; rw [c17b0]) | skip)
                  have H' := Aside0.mk H
                  clear H
                  obtain ⟨Ao18, co18, eo18⟩ := Kd.R_slice HO_9.out
                  subst eo18
                  go_wp2
                  go_meet
                  case rel => exact ⟨_, (decide ((x9_1.length : Int) < (wrap64 (2 * a0)))), (by first | rfl | (simp; done) | (simp [*]; done)), H', ⟨by have := HK1.out; first | omega | exact Nat.le_refl _⟩, ⟨by (with_reducible repeat (first | apply Kd.R_alloc | apply Kd.R_drewN | apply Kd.R_drew)); exact HO_8.out⟩, ⟨by (with_reducible repeat (first | apply Kd.R_alloc | apply Kd.R_drewN | apply Kd.R_drew)); exact HO_9.out⟩, ⟨by repeat (first | (with_reducible first | exact HB.out | apply below_alloc | apply pw_below_drewN | apply below_drew1) | exact HB.out)⟩⟩
                · rw [if_neg c17] at H
                  have c17b0 : decide (x10_1 < (wrap64 ((l2.length : Int) + ji8))) = false := decide_eq_false c17
                  clear c17
                  (first | rw [c17b0] | (simp only [i64_w, i32_w]; rw [c17b0]) | skip)
                  have H' := Aside0.mk H
                  clear H
                  go_wp2
                  go_meet
                  case rel => exact ⟨_, (false), (by first | rfl | (simp; done) | (simp [*]; done)), H', ⟨by have := HK1.out; first | omega | exact Nat.le_refl _⟩, ⟨by (with_reducible repeat (first | apply Kd.R_alloc | apply Kd.R_drewN | apply Kd.R_drew)); exact HO_8.out⟩, ⟨by (with_reducible repeat (first | apply Kd.R_alloc | apply Kd.R_drewN | apply Kd.R_drew)); exact HO_9.out⟩, ⟨by repeat (first | (with_reducible first | exact HB.out | apply below_alloc | apply pw_below_drewN | apply below_drew1) | exact HB.out)⟩⟩
              case rest =>
                clear HC16
                try clear c1
                try clear c2
                try clear p2
                try clear c5
                try clear p6
                try clear c7
                try clear c9
                try clear c9b0
                try clear c9b1
                try clear c10
                try clear c10b0
                try clear c10b1
                try clear c11
                try clear c17
                try clear c17b0
                try clear p2
                try clear p6
                obtain ⟨kq, x43_15, rfl, HA, HJ15, HO_8, HO_9, HB⟩ := hcut
                cases kq with
                | zero => exact absurd HA.out (by simp [tesseralaw05_HalfAnyShards.j1])
                | succ kj15 =>
                  have H := HA.out
                  clear HA
                  first | rw [tesseralaw05_HalfAnyShards.j1] at H | simp only [tesseralaw05_HalfAnyShards.j1] at H
                  by_cases c19 : x43_15 = true
                  · subst c19
                    have H1 : (if ji8 = 0 then (none) else (if x10_1 < (l2.length : Int) then (if 0 ≤ x10_1 then (if 0 ≤ (Int.tmod (wrap64 ((Int.tmod (rd l2 x10_1) ji8) + ji8)) ji8) then (if (Int.tmod (wrap64 ((Int.tmod (rd l2 x10_1) ji8) + ji8)) ji8) < (x8_1.length : Int) then (if (rdOf false x8_1 (Int.tmod (wrap64 ((Int.tmod (rd l2 x10_1) ji8) + ji8)) ji8) = true) then (tesseralaw05_HalfAnyShards.l0 kj15 a0 a1 l2 ji8 x8_1 x9_1 (wrap64 (x10_1 + 1))) else ((some (([wrap64 (2 * (Int.tmod (wrap64 ((Int.tmod (rd l2 x10_1) ji8) + ji8)) ji8)), wrap64 ((wrap64 (2 * (Int.tmod (wrap64 ((Int.tmod (rd l2 x10_1) ji8) + ji8)) ji8))) + 1)] : List Int) : List Int)).bind fun y417 => (if x9_1.length + y417.length < 17592186044416 then (tesseralaw05_HalfAnyShards.l0 kj15 a0 a1 l2 ji8 (x8_1.set ((Int.tmod (wrap64 ((Int.tmod (rd l2 x10_1) ji8) + ji8)) ji8) : Int).toNat true) (x9_1 ++ y417) (wrap64 (x10_1 + 1))) else (none)))) else (none)) else (none)) else (none)) else (if 0 ≤ (Int.tmod x10_1 ji8) then (if (Int.tmod x10_1 ji8) < (x8_1.length : Int) then (if (rdOf false x8_1 (Int.tmod x10_1 ji8) = true) then (tesseralaw05_HalfAnyShards.l0 kj15 a0 a1 l2 ji8 x8_1 x9_1 (wrap64 (x10_1 + 1))) else ((some (([wrap64 (2 * (Int.tmod x10_1 ji8)), wrap64 ((wrap64 (2 * (Int.tmod x10_1 ji8))) + 1)] : List Int) : List Int)).bind fun y425 => (if x9_1.length + y425.length < 17592186044416 then (tesseralaw05_HalfAnyShards.l0 kj15 a0 a1 l2 ji8 (x8_1.set ((Int.tmod x10_1 ji8) : Int).toNat true) (x9_1 ++ y425) (wrap64 (x10_1 + 1))) else (none)))) else (none)) else (none)))) = some r := by rw [if_pos rfl] at H; exact H
                    clear H
                    have H := H1
                    clear H1
                    by_cases c20 : ji8 = 0
                    · rw [if_pos c20] at H
                      exact absurd H (by simp)
                    · rw [if_neg c20] at H
                      have c20b0 : (ji8 == 0) = false := beq_eq_false_iff_ne.mpr c20
                      have c20b1 : (ji8 != 0) = true := bne_iff_ne.mpr c20
                      by_cases c21 : x10_1 < (l2.length : Int)
                      · rw [if_pos c21] at H
                        have c21b0 : decide (x10_1 < (l2.length : Int)) = true := decide_eq_true c21
                        clear c21
                        by_cases c22 : 0 ≤ x10_1
                        · rw [if_pos c22] at H
                          have c22b0 : decide (0 ≤ x10_1) = true := decide_eq_true c22
                          clear c22
                          obtain ⟨ji23, hji23⟩ : ∃ j_ : Int, (Int.tmod (wrap64 ((Int.tmod (rd l2 x10_1) ji8) + ji8)) ji8) = j_ := ⟨_, rfl⟩
                          replace H : (if 0 ≤ (ji23) then (if (ji23) < (x8_1.length : Int) then (if (rdOf false x8_1 (ji23) = true) then (tesseralaw05_HalfAnyShards.l0 kj15 a0 a1 l2 ji8 x8_1 x9_1 (wrap64 (x10_1 + 1))) else ((some (([wrap64 (2 * (ji23)), wrap64 ((wrap64 (2 * (ji23))) + 1)] : List Int) : List Int)).bind fun y417 => (if x9_1.length + y417.length < 17592186044416 then (tesseralaw05_HalfAnyShards.l0 kj15 a0 a1 l2 ji8 (x8_1.set ((ji23) : Int).toNat true) (x9_1 ++ y417) (wrap64 (x10_1 + 1))) else (none)))) else (none)) else (none)) = some r := by first | (rw [hji23] at H; exact H) | (simp only [hji23] at H ⊢; exact H)
                          by_cases c24 : 0 ≤ (ji23)
                          · rw [if_pos c24] at H
                            have c24b0 : decide (0 ≤ (ji23)) = true := decide_eq_true c24
                            clear c24
                            by_cases c25 : (ji23) < (x8_1.length : Int)
                            · rw [if_pos c25] at H
                              have c25b0 : decide ((ji23) < (x8_1.length : Int)) = true := decide_eq_true c25
                              clear c25
                              obtain ⟨bq26, hbq26⟩ : ∃ b_ : Bool, b_ = (rdOf false x8_1 (ji23)) := ⟨_, rfl⟩
                              replace H : (if (bq26 = true) then (tesseralaw05_HalfAnyShards.l0 kj15 a0 a1 l2 ji8 x8_1 x9_1 (wrap64 (x10_1 + 1))) else ((some (([wrap64 (2 * (ji23)), wrap64 ((wrap64 (2 * (ji23))) + 1)] : List Int) : List Int)).bind fun y417 => (if x9_1.length + y417.length < 17592186044416 then (tesseralaw05_HalfAnyShards.l0 kj15 a0 a1 l2 ji8 (x8_1.set ((ji23) : Int).toNat true) (x9_1 ++ y417) (wrap64 (x10_1 + 1))) else (none)))) = some r := by rw [← hbq26] at H; exact H
                              have Nbq26 := Aside0.mk hbq26
                              clear hbq26
                              by_cases c27 : (bq26 = true)
                              · subst c27
                                have H1 : (tesseralaw05_HalfAnyShards.l0 kj15 a0 a1 l2 ji8 x8_1 x9_1 (wrap64 (x10_1 + 1))) = some r := by rw [if_pos rfl] at H; exact H
                                clear H
                                have H := H1
                                clear H1
                                have H' := Aside0.mk H
                                clear H
                                have p414 : 0 ≤ (x10_1 : Int) := of_decide_eq_true (by first | (with_reducible assumption) | assumption)
                                have q414 : x10_1 < (l2.length : Int) := of_decide_eq_true (by first | (with_reducible assumption) | assumption)
                                obtain ⟨ad414, e414, hx414_0⟩ := Kd.at_int HR2.out x10_1 p414 q414
                                cases e414
                                replace hx414_0 := (HB.out.cell (World.block_lt_of_cell? w _ hx414_0)).trans hx414_0
                                replace p414 := eq_true p414
                                replace q414 := eq_true q414
                                obtain ⟨Ao28, co28, eo28⟩ := Kd.R_slice HO_8.out
                                subst eo28
                                have p415 : 0 ≤ ((ji23) : Int) := of_decide_eq_true (by first | (with_reducible assumption) | assumption)
                                have q415 : (ji23) < (x8_1.length : Int) := of_decide_eq_true (by first | (with_reducible assumption) | assumption)
                                obtain ⟨ad415, e415, hx415_0⟩ := Kd.at_bool (Kd.R_reads' HO_8.out).2.2 (ji23) p415 q415
                                (try rw [← Nbq26.out] at hx415_0)
                                cases e415
                                replace p415 := eq_true p415
                                replace q415 := eq_true q415
                                go_wp2
                                go_roundg kj15
                                case measure => have := HK1.out; have := HJ15.out; omega
                                case rel => exact ⟨(x8_1), (x9_1), (wrap64 (x10_1 + 1)), (by first | rfl | (simp; done) | (simp [*]; done)), H', ⟨by have := HK1.out; have := HJ15.out; omega⟩, ⟨by (with_reducible repeat (first | apply Kd.R_alloc | apply Kd.R_drewN | apply Kd.R_drew)); exact HO_8.out⟩, ⟨by (with_reducible repeat (first | apply Kd.R_alloc | apply Kd.R_drewN | apply Kd.R_drew)); exact HO_9.out⟩, ⟨by repeat (first | (with_reducible first | exact HB.out | apply below_alloc | apply pw_below_drewN | apply below_drew1) | exact HB.out)⟩⟩
                              · replace c27 := Bool.eq_false_iff.mpr c27
                                subst c27
                                have H1 : ((some (([wrap64 (2 * (ji23)), wrap64 ((wrap64 (2 * (ji23))) + 1)] : List Int) : List Int)).bind fun y417 => (if x9_1.length + y417.length < 17592186044416 then (tesseralaw05_HalfAnyShards.l0 kj15 a0 a1 l2 ji8 (x8_1.set ((ji23) : Int).toNat true) (x9_1 ++ y417) (wrap64 (x10_1 + 1))) else (none))) = some r := by rw [if_neg (show ¬ (false = true) by decide)] at H; exact H
                                clear H
                                have H := H1
                                clear H1
                                obtain ⟨y416, hy416⟩ : ∃ y_ : List Bool, y_ = (x8_1.set ((ji23) : Int).toNat true) := ⟨_, rfl⟩
                                replace H : ((some (([wrap64 (2 * (ji23)), wrap64 ((wrap64 (2 * (ji23))) + 1)] : List Int) : List Int)).bind fun y417 => (if x9_1.length + y417.length < 17592186044416 then (tesseralaw05_HalfAnyShards.l0 kj15 a0 a1 l2 ji8 y416 (x9_1 ++ y417) (wrap64 (x10_1 + 1))) else (none))) = some r := by first | (rw [hy416]; with_reducible exact H) | (have H2_ := (Option.bind_some _ _).symm.trans H; rw [hy416]; with_reducible exact H2_) | (have H2_ := (Option.bind_some _ _).symm.trans H; with_reducible exact H2_) | with_reducible exact H | (rw [hy416]; exact H) | exact H
                                have Ny416 := Aside0.mk hy416
                                clear hy416
                                obtain ⟨y417, hy417⟩ : ∃ y_ : List Int, y_ = (([wrap64 (2 * (ji23)), wrap64 ((wrap64 (2 * (ji23))) + 1)] : List Int)) := ⟨_, rfl⟩
                                replace H : (if x9_1.length + y417.length < 17592186044416 then (tesseralaw05_HalfAnyShards.l0 kj15 a0 a1 l2 ji8 y416 (x9_1 ++ y417) (wrap64 (x10_1 + 1))) else (none)) = some r := by first | (rw [hy417]; with_reducible exact H) | (have H2_ := (Option.bind_some _ _).symm.trans H; rw [hy417]; with_reducible exact H2_) | (have H2_ := (Option.bind_some _ _).symm.trans H; with_reducible exact H2_) | with_reducible exact H | (rw [hy417]; exact H) | exact H
                                have Ny417 := Aside0.mk hy417
                                clear hy417
                                by_cases c30 : x9_1.length + y417.length < 17592186044416
                                · rw [if_pos c30] at H
                                  have LMc30 := Aside0.mk c30
                                  clear c30
                                  obtain ⟨y420, hy420⟩ : ∃ y_ : List Int, y_ = (x9_1 ++ y417) := ⟨_, rfl⟩
                                  replace H : (tesseralaw05_HalfAnyShards.l0 kj15 a0 a1 l2 ji8 y416 y420 (wrap64 (x10_1 + 1))) = some r := by first | (rw [hy420]; with_reducible exact H) | (have H2_ := (Option.bind_some _ _).symm.trans H; rw [hy420]; with_reducible exact H2_) | (have H2_ := (Option.bind_some _ _).symm.trans H; with_reducible exact H2_) | with_reducible exact H | (rw [hy420]; exact H) | exact H
                                  have Ny420 := Aside0.mk hy420
                                  clear hy420
                                  have H' := Aside0.mk H
                                  clear H
                                  have p414 : 0 ≤ (x10_1 : Int) := of_decide_eq_true (by first | (with_reducible assumption) | assumption)
                                  have q414 : x10_1 < (l2.length : Int) := of_decide_eq_true (by first | (with_reducible assumption) | assumption)
                                  obtain ⟨ad414, e414, hx414_0⟩ := Kd.at_int HR2.out x10_1 p414 q414
                                  cases e414
                                  replace hx414_0 := (HB.out.cell (World.block_lt_of_cell? w _ hx414_0)).trans hx414_0
                                  replace p414 := eq_true p414
                                  replace q414 := eq_true q414
                                  obtain ⟨Ao31, co31, eo31⟩ := Kd.R_slice HO_8.out
                                  subst eo31
                                  have p415 : 0 ≤ ((ji23) : Int) := of_decide_eq_true (by first | (with_reducible assumption) | assumption)
                                  have q415 : (ji23) < (x8_1.length : Int) := of_decide_eq_true (by first | (with_reducible assumption) | assumption)
                                  obtain ⟨ad415, e415, hx415_0⟩ := Kd.at_bool (Kd.R_reads' HO_8.out).2.2 (ji23) p415 q415
                                  (try rw [← Nbq26.out] at hx415_0)
                                  cases e415
                                  replace p415 := eq_true p415
                                  replace q415 := eq_true q415
                                  have p29 : 0 ≤ ((ji23) : Int) := of_decide_eq_true (by first | (with_reducible assumption) | assumption)
                                  have q29 : ((ji23) : Int) < ((x8_1.length : Int) : Int) := of_decide_eq_true (by first | (with_reducible assumption) | assumption)
                                  obtain ⟨go29, co29, eo29, gb29, gl29, cl29, HG29⟩ := Kd.R_form HO_8.out (by omega)
                                  (first | cases eo29 | (injection eo29 with ea_ en_ ec_; (first | subst ea_ | (injection ea_ with ea_; subst ea_)); subst ec_; clear en_))
                                  have GB29 := Aside0.mk gb29
                                  have GG29 := Aside0.mk HG29
                                  clear gb29 gl29 HG29
                                  (first | simp only [add_plain] at hx415_0 | skip)
                                  obtain ⟨hx29_0, hf29_0⟩ := Kd.R_celln false HO_8.out ((ji23) : Int) p29 q29
                                  replace p29 := eq_true p29
                                  replace q29 := eq_true q29
                                  have HP32 := Kd.R_putg HO_8.out ((ji23) : Int) true
                                  go_wp2_with (first | ((with_reducible refine gate_store (t := 4) (p := 70) rfl ?_); refine store_event (t := 4) (p := 70) (v := ?vo_w33) (w1 := (wc.setCell ⟨go29, ((ji23) : Int).toNat, none⟩ (.bool true))) ?hg ?ho ?hn ?hr ?_; (case ho => rfl); (case hg => rfl); (case hn => rfl); (case hr => first | (go_simp; done) | (go_simp; rfl)); intro w33 hw; have hg : wc.grownBy w33 (some go29) := (by rw [hw]; exact HP32.2); have hp_ : Kd.R Kd.bool 4 w33 w.heap.size (fun _ => True) (.slice (some ⟨go29, 0, none⟩) x8_1.length co31) y416 := (by rw [hw, Ny416.out]; exact HP32.1); clear HP32; have n0_ := Aside0.mk (hp_); have n1_ := Aside0.mk (Kd.R_over' (v := (.slice (some ⟨go29, 0, none⟩) x8_1.length co31)) (by (with_reducible repeat (first | apply Kd.R_alloc | apply Kd.R_drewN | apply Kd.R_drew)); exact HO_9.out) (Kd.R_typed HO_8.out) (by decide) hg); have n2_ := Aside0.mk ((by rw [hw]; exact below_set (HB.out) GB29.out : Below w.heap.size w w33)); clear HO_8; clear HO_9; clear HB; have HO_8 := n0_; have HO_9 := n1_; have HB := n2_; clear n0_ n1_ n2_; clear hg hw hp_) | ((with_reducible refine gate_dst (N := 77) rfl ?_); (try (refine gate_guard (by rfl) ?_; dsimp only)); refine Kd.R_lit (Kd.int .i64) _ 3 ?hg (N := 77) ?hd (xs := ([wrap64 (2 * (ji23)), wrap64 ((wrap64 (2 * (ji23))) + 1)] : List Int)) (inner := [.int .i64 (wrap64 (2 * (ji23))), .int .i64 (wrap64 ((wrap64 (2 * (ji23))) + 1))]) (ok := fun _ => True) (okp := fun _ => True) ?hr ?hp (fun _ hk => hk) trivial (Below.refl _ _) (Nat.le_refl _) (by simp) ?_; (case hd => rfl); (case hg => rfl); (case hr => first | (go_simp; done) | (go_simp; rfl)); (case hp => exact (Reps.one (show Kd.M (Kd.int .i64) _ _ _ (wrap64 (2 * (ji23))) [.int .i64 (wrap64 (2 * (ji23)))] from rfl) (Reps.one (show Kd.M (Kd.int .i64) _ _ _ (wrap64 ((wrap64 (2 * (ji23))) + 1)) [.int .i64 (wrap64 ((wrap64 (2 * (ji23))) + 1))] from rfl) (Reps.none _ _)))); intro v418 w34 ho35 hb hg_ hnew_; clear hg_ hnew_; (first | rw [← Ny417.out] at ho35 | (simp only [Int.reduceToNat] at ho35; rw [← Ny417.out] at ho35)); have n0_ := Aside0.mk (Kd.R_below (by (with_reducible repeat (first | apply Kd.R_alloc | apply Kd.R_drewN | apply Kd.R_drew)); exact HO_8.out) hb); have n1_ := Aside0.mk (Kd.R_elder' (by (with_reducible repeat (first | apply Kd.R_alloc | apply Kd.R_drewN | apply Kd.R_drew)); exact HO_9.out) (Kd.R_base ho35) hb); have n2_ := Aside0.mk (Kd.R_lower (Kd.R_new' ho35 (Kd.R_lt (by (with_reducible repeat (first | apply Kd.R_alloc | apply Kd.R_drewN | apply Kd.R_drew)); exact HO_9.out))) (below_size (by repeat (first | (with_reducible first | exact HB.out | apply below_alloc | apply pw_below_drewN | apply below_drew1) | exact HB.out)))); have n3_ := Aside0.mk (below_step (by repeat (first | (with_reducible first | exact HB.out | apply below_alloc | apply pw_below_drewN | apply below_drew1) | exact HB.out)) hb); clear HO_8; clear HO_9; clear HB; have HO_8 := n0_; have HO_9 := n1_; have HO419 := n2_; have HB := n3_; clear n0_ n1_ n2_ n3_; clear hb ho35; obtain ⟨Ao37, co37, eo37⟩ := Kd.R_slice HO419.out; subst eo37) | ((with_reducible refine gate_builtin (b := .append) (xs := #[.tmp 71, .tmp 77]) rfl ?_); (try (refine gate_guard (by rfl) ?_; dsimp only)); at_builtin; refine Kd.R_append_rows (Kd.int .i64) (w0 := w) w.heap.size rfl (.tmp 71) (.tmp 77) 25 3 (.int .i64 0) 8 rfl Tryd.underlying25 info3 rfl (by decide) (by omega) u9 x9_1 y417 _ _ _ (fun k_ => some k_ ≠ (.slice Ao37 y417.length co37 : Value).ownBlock) (fun _ => False) rfl rfl ?aO ?aR (fun _ _ h => h) (fun _ h => h.elim) ?aF ?aB ?aS ?aL ?_; (case aR => repeat (first | exact (Kd.R_reads' HO419.out).2.2 | (with_reducible refine Kd.C_alloc ?_ _) | (with_reducible refine Kd.C_drewN ?_ _) | (with_reducible refine Kd.C_drew ?_))); (case aB => exact (by repeat (first | (with_reducible first | exact HB.out | apply below_alloc | apply pw_below_drewN | apply below_drew1) | exact HB.out))); (case aF => exact (fun k_ hk => Kd.fresh' (Kd.R_lt (by (with_reducible repeat (first | apply Kd.R_alloc | apply Kd.R_drewN | apply Kd.R_drew)); exact HO419.out)) k_ hk)); (case aO => exact (by (with_reducible repeat (first | apply Kd.R_alloc | apply Kd.R_drewN | apply Kd.R_drew)); exact Kd.R_mono HO_9.out (fun _ hk => hk.2))); (case aS => exact (below_size (by repeat (first | (with_reducible first | exact HB.out | apply below_alloc | apply pw_below_drewN | apply below_drew1) | exact HB.out)))); (case aL => have := LMc30.out; omega); intro v421 w36 ho hb hg hat; rw [← Ny420.out] at ho; have n0_ := Aside0.mk (Kd.R_over' (by (with_reducible repeat (first | apply Kd.R_alloc | apply Kd.R_drewN | apply Kd.R_drew)); exact HO_8.out) (Kd.R_typed (by (with_reducible repeat (first | apply Kd.R_alloc | apply Kd.R_drewN | apply Kd.R_drew)); exact HO_9.out)) (by decide) hg); have n1_ := Aside0.mk (Kd.R_after (ok := (fun _ => True)) (by (with_reducible repeat (first | apply Kd.R_alloc | apply Kd.R_drewN | apply Kd.R_drew)); exact HO419.out) hg hat); have n2_ := Aside0.mk (hb); have n3_ := Aside0.mk (ho); clear HO_8; clear HO419; clear HB; clear HO_9; have HO_8 := n0_; have HO419 := n1_; have HB := n2_; have HO422 := n3_; clear n0_ n1_ n2_ n3_; clear ho hb hg hat))
                                  go_roundg kj15
                                  case measure => have := HK1.out; have := HJ15.out; omega
                                  case rel => exact ⟨(y416), (y420), (wrap64 (x10_1 + 1)), (by first | rfl | (simp; done) | (simp [*]; done)), H', ⟨by have := HK1.out; have := HJ15.out; omega⟩, ⟨by (with_reducible repeat (first | apply Kd.R_alloc | apply Kd.R_drewN | apply Kd.R_drew)); exact HO_8.out⟩, ⟨by (with_reducible repeat (first | apply Kd.R_alloc | apply Kd.R_drewN | apply Kd.R_drew)); exact Kd.R_mono HO422.out (fun _ hk => trivial)⟩, ⟨by repeat (first | (with_reducible first | exact HB.out | apply below_alloc | apply pw_below_drewN | apply below_drew1) | exact HB.out)⟩⟩
                                · rw [if_neg c30] at H
                                  exact absurd H (by simp)
                            · rw [if_neg c25] at H
                              exact absurd H (by simp)
                          · rw [if_neg c24] at H
                            exact absurd H (by simp)
                        · rw [if_neg c22] at H
                          exact absurd H (by simp)
                      · rw [if_neg c21] at H
                        have c21b0 : decide (x10_1 < (l2.length : Int)) = false := decide_eq_false c21
                        clear c21
                        obtain ⟨ji38, hji38⟩ : ∃ j_ : Int, (Int.tmod x10_1 ji8) = j_ := ⟨_, rfl⟩
                        replace H : (if 0 ≤ (ji38) then (if (ji38) < (x8_1.length : Int) then (if (rdOf false x8_1 (ji38) = true) then (tesseralaw05_HalfAnyShards.l0 kj15 a0 a1 l2 ji8 x8_1 x9_1 (wrap64 (x10_1 + 1))) else ((some (([wrap64 (2 * (ji38)), wrap64 ((wrap64 (2 * (ji38))) + 1)] : List Int) : List Int)).bind fun y425 => (if x9_1.length + y425.length < 17592186044416 then (tesseralaw05_HalfAnyShards.l0 kj15 a0 a1 l2 ji8 (x8_1.set ((ji38) : Int).toNat true) (x9_1 ++ y425) (wrap64 (x10_1 + 1))) else (none)))) else (none)) else (none)) = some r := by first | (rw [hji38] at H; exact H) | (simp only [hji38] at H ⊢; exact H)
                        by_cases c39 : 0 ≤ (ji38)
                        · rw [if_pos c39] at H
                          have c39b0 : decide (0 ≤ (ji38)) = true := decide_eq_true c39
                          clear c39
                          by_cases c40 : (ji38) < (x8_1.length : Int)
                          · rw [if_pos c40] at H
                            have c40b0 : decide ((ji38) < (x8_1.length : Int)) = true := decide_eq_true c40
                            clear c40
                            obtain ⟨bq41, hbq41⟩ : ∃ b_ : Bool, b_ = (rdOf false x8_1 (ji38)) := ⟨_, rfl⟩
                            replace H : (if (bq41 = true) then (tesseralaw05_HalfAnyShards.l0 kj15 a0 a1 l2 ji8 x8_1 x9_1 (wrap64 (x10_1 + 1))) else ((some (([wrap64 (2 * (ji38)), wrap64 ((wrap64 (2 * (ji38))) + 1)] : List Int) : List Int)).bind fun y425 => (if x9_1.length + y425.length < 17592186044416 then (tesseralaw05_HalfAnyShards.l0 kj15 a0 a1 l2 ji8 (x8_1.set ((ji38) : Int).toNat true) (x9_1 ++ y425) (wrap64 (x10_1 + 1))) else (none)))) = some r := by rw [← hbq41] at H; exact H
                            have Nbq41 := Aside0.mk hbq41
                            clear hbq41
                            by_cases c42 : (bq41 = true)
                            · subst c42
                              have H1 : (tesseralaw05_HalfAnyShards.l0 kj15 a0 a1 l2 ji8 x8_1 x9_1 (wrap64 (x10_1 + 1))) = some r := by rw [if_pos rfl] at H; exact H
                              clear H
                              have H := H1
                              clear H1
                              have H' := Aside0.mk H
                              clear H
                              obtain ⟨Ao43, co43, eo43⟩ := Kd.R_slice HO_8.out
                              subst eo43
                              have p423 : 0 ≤ ((ji38) : Int) := of_decide_eq_true (by first | (with_reducible assumption) | assumption)
                              have q423 : (ji38) < (x8_1.length : Int) := of_decide_eq_true (by first | (with_reducible assumption) | assumption)
                              obtain ⟨ad423, e423, hx423_0⟩ := Kd.at_bool (Kd.R_reads' HO_8.out).2.2 (ji38) p423 q423
                              (try rw [← Nbq41.out] at hx423_0)
                              cases e423
                              replace p423 := eq_true p423
                              replace q423 := eq_true q423
                              go_wp2
                              go_roundg kj15
                              case measure => have := HK1.out; have := HJ15.out; omega
                              case rel => exact ⟨(x8_1), (x9_1), (wrap64 (x10_1 + 1)), (by first | rfl | (simp; done) | (simp [*]; done)), H', ⟨by have := HK1.out; have := HJ15.out; omega⟩, ⟨by (with_reducible repeat (first | apply Kd.R_alloc | apply Kd.R_drewN | apply Kd.R_drew)); exact HO_8.out⟩, ⟨by (with_reducible repeat (first | apply Kd.R_alloc | apply Kd.R_drewN | apply Kd.R_drew)); exact HO_9.out⟩, ⟨by repeat (first | (with_reducible first | exact HB.out | apply below_alloc | apply pw_below_drewN | apply below_drew1) | exact HB.out)⟩⟩
                            · replace c42 := Bool.eq_false_iff.mpr c42
                              subst c42
                              have H1 : ((some (([wrap64 (2 * (ji38)), wrap64 ((wrap64 (2 * (ji38))) + 1)] : List Int) : List Int)).bind fun y425 => (if x9_1.length + y425.length < 17592186044416 then (tesseralaw05_HalfAnyShards.l0 kj15 a0 a1 l2 ji8 (x8_1.set ((ji38) : Int).toNat true) (x9_1 ++ y425) (wrap64 (x10_1 + 1))) else (none))) = some r := by rw [if_neg (show ¬ (false = true) by decide)] at H; exact H
                              clear H
                              have H := H1
                              clear H1
                              obtain ⟨y424, hy424⟩ : ∃ y_ : List Bool, y_ = (x8_1.set ((ji38) : Int).toNat true) := ⟨_, rfl⟩
                              replace H : ((some (([wrap64 (2 * (ji38)), wrap64 ((wrap64 (2 * (ji38))) + 1)] : List Int) : List Int)).bind fun y425 => (if x9_1.length + y425.length < 17592186044416 then (tesseralaw05_HalfAnyShards.l0 kj15 a0 a1 l2 ji8 y424 (x9_1 ++ y425) (wrap64 (x10_1 + 1))) else (none))) = some r := by first | (rw [hy424]; with_reducible exact H) | (have H2_ := (Option.bind_some _ _).symm.trans H; rw [hy424]; with_reducible exact H2_) | (have H2_ := (Option.bind_some _ _).symm.trans H; with_reducible exact H2_) | with_reducible exact H | (rw [hy424]; exact H) | exact H
                              have Ny424 := Aside0.mk hy424
                              clear hy424
                              obtain ⟨y425, hy425⟩ : ∃ y_ : List Int, y_ = (([wrap64 (2 * (ji38)), wrap64 ((wrap64 (2 * (ji38))) + 1)] : List Int)) := ⟨_, rfl⟩
                              replace H : (if x9_1.length + y425.length < 17592186044416 then (tesseralaw05_HalfAnyShards.l0 kj15 a0 a1 l2 ji8 y424 (x9_1 ++ y425) (wrap64 (x10_1 + 1))) else (none)) = some r := by first | (rw [hy425]; with_reducible exact H) | (have H2_ := (Option.bind_some _ _).symm.trans H; rw [hy425]; with_reducible exact H2_) | (have H2_ := (Option.bind_some _ _).symm.trans H; with_reducible exact H2_) | with_reducible exact H | (rw [hy425]; exact H) | exact H
                              have Ny425 := Aside0.mk hy425
                              clear hy425
                              by_cases c45 : x9_1.length + y425.length < 17592186044416
                              · rw [if_pos c45] at H
                                have LMc45 := Aside0.mk c45
                                clear c45
                                obtain ⟨y428, hy428⟩ : ∃ y_ : List Int, y_ = (x9_1 ++ y425) := ⟨_, rfl⟩
                                replace H : (tesseralaw05_HalfAnyShards.l0 kj15 a0 a1 l2 ji8 y424 y428 (wrap64 (x10_1 + 1))) = some r := by first | (rw [hy428]; with_reducible exact H) | (have H2_ := (Option.bind_some _ _).symm.trans H; rw [hy428]; with_reducible exact H2_) | (have H2_ := (Option.bind_some _ _).symm.trans H; with_reducible exact H2_) | with_reducible exact H | (rw [hy428]; exact H) | exact H
                                have Ny428 := Aside0.mk hy428
                                clear hy428
                                have H' := Aside0.mk H
                                clear H
                                obtain ⟨Ao46, co46, eo46⟩ := Kd.R_slice HO_8.out
                                subst eo46
                                have p423 : 0 ≤ ((ji38) : Int) := of_decide_eq_true (by first | (with_reducible assumption) | assumption)
                                have q423 : (ji38) < (x8_1.length : Int) := of_decide_eq_true (by first | (with_reducible assumption) | assumption)
                                obtain ⟨ad423, e423, hx423_0⟩ := Kd.at_bool (Kd.R_reads' HO_8.out).2.2 (ji38) p423 q423
                                (try rw [← Nbq41.out] at hx423_0)
                                cases e423
                                replace p423 := eq_true p423
                                replace q423 := eq_true q423
                                have p44 : 0 ≤ ((ji38) : Int) := of_decide_eq_true (by first | (with_reducible assumption) | assumption)
                                have q44 : ((ji38) : Int) < ((x8_1.length : Int) : Int) := of_decide_eq_true (by first | (with_reducible assumption) | assumption)
                                obtain ⟨go44, co44, eo44, gb44, gl44, cl44, HG44⟩ := Kd.R_form HO_8.out (by omega)
                                (first | cases eo44 | (injection eo44 with ea_ en_ ec_; (first | subst ea_ | (injection ea_ with ea_; subst ea_)); subst ec_; clear en_))
                                have GB44 := Aside0.mk gb44
                                have GG44 := Aside0.mk HG44
                                clear gb44 gl44 HG44
                                (first | simp only [add_plain] at hx423_0 | skip)
                                obtain ⟨hx44_0, hf44_0⟩ := Kd.R_celln false HO_8.out ((ji38) : Int) p44 q44
                                replace p44 := eq_true p44
                                replace q44 := eq_true q44
                                have HP47 := Kd.R_putg HO_8.out ((ji38) : Int) true
                                go_wp2_with (first | ((with_reducible refine gate_store (t := 4) (p := 70) rfl ?_); refine store_event (t := 4) (p := 70) (v := ?vo_w48) (w1 := (wc.setCell ⟨go44, ((ji38) : Int).toNat, none⟩ (.bool true))) ?hg ?ho ?hn ?hr ?_; (case ho => rfl); (case hg => rfl); (case hn => rfl); (case hr => first | (go_simp; done) | (go_simp; rfl)); intro w48 hw; have hg : wc.grownBy w48 (some go44) := (by rw [hw]; exact HP47.2); have hp_ : Kd.R Kd.bool 4 w48 w.heap.size (fun _ => True) (.slice (some ⟨go44, 0, none⟩) x8_1.length co46) y424 := (by rw [hw, Ny424.out]; exact HP47.1); clear HP47; have n0_ := Aside0.mk (hp_); have n1_ := Aside0.mk (Kd.R_over' (v := (.slice (some ⟨go44, 0, none⟩) x8_1.length co46)) (by (with_reducible repeat (first | apply Kd.R_alloc | apply Kd.R_drewN | apply Kd.R_drew)); exact HO_9.out) (Kd.R_typed HO_8.out) (by decide) hg); have n2_ := Aside0.mk ((by rw [hw]; exact below_set (HB.out) GB44.out : Below w.heap.size w w48)); clear HO_8; clear HO_9; clear HB; have HO_8 := n0_; have HO_9 := n1_; have HB := n2_; clear n0_ n1_ n2_; clear hg hw hp_) | ((with_reducible refine gate_dst (N := 77) rfl ?_); (try (refine gate_guard (by rfl) ?_; dsimp only)); refine Kd.R_lit (Kd.int .i64) _ 3 ?hg (N := 77) ?hd (xs := ([wrap64 (2 * (ji38)), wrap64 ((wrap64 (2 * (ji38))) + 1)] : List Int)) (inner := [.int .i64 (wrap64 (2 * (ji38))), .int .i64 (wrap64 ((wrap64 (2 * (ji38))) + 1))]) (ok := fun _ => True) (okp := fun _ => True) ?hr ?hp (fun _ hk => hk) trivial (Below.refl _ _) (Nat.le_refl _) (by simp) ?_; (case hd => rfl); (case hg => rfl); (case hr => first | (go_simp; done) | (go_simp; rfl)); (case hp => exact (Reps.one (show Kd.M (Kd.int .i64) _ _ _ (wrap64 (2 * (ji38))) [.int .i64 (wrap64 (2 * (ji38)))] from rfl) (Reps.one (show Kd.M (Kd.int .i64) _ _ _ (wrap64 ((wrap64 (2 * (ji38))) + 1)) [.int .i64 (wrap64 ((wrap64 (2 * (ji38))) + 1))] from rfl) (Reps.none _ _)))); intro v426 w49 ho50 hb hg_ hnew_; clear hg_ hnew_; (first | rw [← Ny425.out] at ho50 | (simp only [Int.reduceToNat] at ho50; rw [← Ny425.out] at ho50)); have n0_ := Aside0.mk (Kd.R_below (by (with_reducible repeat (first | apply Kd.R_alloc | apply Kd.R_drewN | apply Kd.R_drew)); exact HO_8.out) hb); have n1_ := Aside0.mk (Kd.R_elder' (by (with_reducible repeat (first | apply Kd.R_alloc | apply Kd.R_drewN | apply Kd.R_drew)); exact HO_9.out) (Kd.R_base ho50) hb); have n2_ := Aside0.mk (Kd.R_lower (Kd.R_new' ho50 (Kd.R_lt (by (with_reducible repeat (first | apply Kd.R_alloc | apply Kd.R_drewN | apply Kd.R_drew)); exact HO_9.out))) (below_size (by repeat (first | (with_reducible first | exact HB.out | apply below_alloc | apply pw_below_drewN | apply below_drew1) | exact HB.out)))); have n3_ := Aside0.mk (below_step (by repeat (first | (with_reducible first | exact HB.out | apply below_alloc | apply pw_below_drewN | apply below_drew1) | exact HB.out)) hb); clear HO_8; clear HO_9; clear HB; have HO_8 := n0_; have HO_9 := n1_; have HO427 := n2_; have HB := n3_; clear n0_ n1_ n2_ n3_; clear hb ho50; obtain ⟨Ao52, co52, eo52⟩ := Kd.R_slice HO427.out; subst eo52) | ((with_reducible refine gate_builtin (b := .append) (xs := #[.tmp 71, .tmp 77]) rfl ?_); (try (refine gate_guard (by rfl) ?_; dsimp only)); at_builtin; refine Kd.R_append_rows (Kd.int .i64) (w0 := w) w.heap.size rfl (.tmp 71) (.tmp 77) 25 3 (.int .i64 0) 8 rfl Tryd.underlying25 info3 rfl (by decide) (by omega) u9 x9_1 y425 _ _ _ (fun k_ => some k_ ≠ (.slice Ao52 y425.length co52 : Value).ownBlock) (fun _ => False) rfl rfl ?aO ?aR (fun _ _ h => h) (fun _ h => h.elim) ?aF ?aB ?aS ?aL ?_; (case aR => repeat (first | exact (Kd.R_reads' HO427.out).2.2 | (with_reducible refine Kd.C_alloc ?_ _) | (with_reducible refine Kd.C_drewN ?_ _) | (with_reducible refine Kd.C_drew ?_))); (case aB => exact (by repeat (first | (with_reducible first | exact HB.out | apply below_alloc | apply pw_below_drewN | apply below_drew1) | exact HB.out))); (case aF => exact (fun k_ hk => Kd.fresh' (Kd.R_lt (by (with_reducible repeat (first | apply Kd.R_alloc | apply Kd.R_drewN | apply Kd.R_drew)); exact HO427.out)) k_ hk)); (case aO => exact (by (with_reducible repeat (first | apply Kd.R_alloc | apply Kd.R_drewN | apply Kd.R_drew)); exact Kd.R_mono HO_9.out (fun _ hk => hk.2))); (case aS => exact (below_size (by repeat (first | (with_reducible first | exact HB.out | apply below_alloc | apply pw_below_drewN | apply below_drew1) | exact HB.out)))); (case aL => have := LMc45.out; omega); intro v429 w51 ho hb hg hat; rw [← Ny428.out] at ho; have n0_ := Aside0.mk (Kd.R_over' (by (with_reducible repeat (first | apply Kd.R_alloc | apply Kd.R_drewN | apply Kd.R_drew)); exact HO_8.out) (Kd.R_typed (by (with_reducible repeat (first | apply Kd.R_alloc | apply Kd.R_drewN | apply Kd.R_drew)); exact HO_9.out)) (by decide) hg); have n1_ := Aside0.mk (Kd.R_after (ok := (fun _ => True)) (by (with_reducible repeat (first | apply Kd.R_alloc | apply Kd.R_drewN | apply Kd.R_drew)); exact HO427.out) hg hat); have n2_ := Aside0.mk (hb); have n3_ := Aside0.mk (ho); clear HO_8; clear HO427; clear HB; clear HO_9; have HO_8 := n0_; have HO427 := n1_; have HB := n2_; have HO430 := n3_; clear n0_ n1_ n2_ n3_; clear ho hb hg hat))
                                go_roundg kj15
                                case measure => have := HK1.out; have := HJ15.out; omega
                                case rel => exact ⟨(y424), (y428), (wrap64 (x10_1 + 1)), (by first | rfl | (simp; done) | (simp [*]; done)), H', ⟨by have := HK1.out; have := HJ15.out; omega⟩, ⟨by (with_reducible repeat (first | apply Kd.R_alloc | apply Kd.R_drewN | apply Kd.R_drew)); exact HO_8.out⟩, ⟨by (with_reducible repeat (first | apply Kd.R_alloc | apply Kd.R_drewN | apply Kd.R_drew)); exact Kd.R_mono HO430.out (fun _ hk => trivial)⟩, ⟨by repeat (first | (with_reducible first | exact HB.out | apply below_alloc | apply pw_below_drewN | apply below_drew1) | exact HB.out)⟩⟩
                              · rw [if_neg c45] at H
                                exact absurd H (by simp)
                          · rw [if_neg c40] at H
                            exact absurd H (by simp)
                        · rw [if_neg c39] at H
                          exact absurd H (by simp)
                  · replace c19 := Bool.eq_false_iff.mpr c19
                    subst c19
                    have H1 : ((half_Rows.f kj15 a0 a1).bind fun bt431 => (tesseralaw05_HalfAnyShards.l1 kj15 a0 ji8 x8_1 x9_1 bt431.2.2.2 0 bt431.1 bt431.2.1 bt431.2.2.1)) = some r := by rw [if_neg (show ¬ (false = true) by decide)] at H; exact H
                    clear H
                    have H := H1
                    clear H1
                    replace H := Option.bind_eq_some_iff.mp H
                    obtain ⟨⟨t431, t432, t433, t436⟩, A530, H⟩ := H
                    replace H : (tesseralaw05_HalfAnyShards.l1 kj15 a0 ji8 x8_1 x9_1 t436 0 t431 t432 t433) = some r := H
                    have A53 := Aside0.mk A530
                    clear A530
                    have H' := Aside0.mk H
                    clear H
                    go_wp2_with (first | ((with_reducible refine gate_callee (f := 19) rfl ?_); refine goesL_ (some 82) rfl rfl Tryd.func19 (by kernel_rfl) rfl #[.int .i64 a0, .int .i64 a1] rfl (by (try simp only [List.map_toArray, List.map_cons, List.map_nil]); first | done | rfl | (simp only [List.length_drop, List.length_take]; rfl)) ?_; (with_reducible refine (half_Rows.calls kj15 a0 a1 t431 t432 t433 t436 _ A53.out (Sent.sub (show ∀ c, c ∈ half_Rows.L → c ∈ tesseralaw05_HalfAnyShards.L by decide) (Sent.below HS.out (by repeat (first | (with_reducible first | exact HB.out | apply below_alloc | apply pw_below_drewN | apply below_drew1) | exact HB.out))))).mono ?_); rintro e w54 ⟨v434, rfl, ho0, hb⟩; refine ⟨_, rfl, ?_⟩; have n0_ := Aside0.mk (Kd.R_below (by (with_reducible repeat (first | apply Kd.R_alloc | apply Kd.R_drewN | apply Kd.R_drew)); exact HO_8.out) hb); have n1_ := Aside0.mk (Kd.R_below (by (with_reducible repeat (first | apply Kd.R_alloc | apply Kd.R_drewN | apply Kd.R_drew)); exact HO_9.out) hb); have n2_ := Aside0.mk (Kd.R_lower ho0 (below_size (by repeat (first | (with_reducible first | exact HB.out | apply below_alloc | apply pw_below_drewN | apply below_drew1) | exact HB.out)))); have n3_ := Aside0.mk (below_step (by repeat (first | (with_reducible first | exact HB.out | apply below_alloc | apply pw_below_drewN | apply below_drew1) | exact HB.out)) hb); clear HO_8; clear HO_9; clear HB; have HO_8 := n0_; have HO_9 := n1_; have HO435 := n2_; have HB := n3_; clear n0_ n1_ n2_ n3_; (try clear hb); (try clear hb2); (try clear hk); (try clear hi); (try clear ho0); (try simp only [errW_none, errW_some])) | ((with_reducible refine gate_dst (N := 12) rfl ?_); (try (refine gate_guard (by rfl) ?_; dsimp only)); refine box_event ?hg (N := 12) ?hd (cs := #[.int .i64 0, .int .i64 0, .slice none 0 0]) (t := 43) ?hr ?_; (case hd => rfl); (case hg => rfl); (case hr => first | (go_simp; done) | (go_simp; rfl)); intro gb437 hg w55 hbox hb; have n0_ := Aside0.mk (Kd.R_below (by (with_reducible repeat (first | apply Kd.R_alloc | apply Kd.R_drewN | apply Kd.R_drew)); exact HO_8.out) hb); have n1_ := Aside0.mk (Kd.R_below (by (with_reducible repeat (first | apply Kd.R_alloc | apply Kd.R_drewN | apply Kd.R_drew)); exact HO_9.out) hb); have n2_ := Aside0.mk (Kd.R_below (by (with_reducible repeat (first | apply Kd.R_alloc | apply Kd.R_drewN | apply Kd.R_drew)); exact HO435.out) hb); have n3_ := Aside0.mk (below_step (by repeat (first | (with_reducible first | exact HB.out | apply below_alloc | apply pw_below_drewN | apply below_drew1) | exact HB.out)) hb); have n4_ := Aside0.mk (hbox); have n5_ := Aside0.mk ((by rw [hg]; exact (below_size (by repeat (first | (with_reducible first | exact HB.out | apply below_alloc | apply pw_below_drewN | apply below_drew1) | exact HB.out))) : w.heap.size ≤ gb437)); have n6_ := Aside0.mk ((by rw [hg]; exact (below_size (by repeat (first | (with_reducible first | exact HB.out | apply below_alloc | apply pw_below_drewN | apply below_drew1) | exact HB.out))) : w.heap.size ≤ gb437)); clear HO_8; clear HO_9; clear HO435; clear HB; have HO_8 := n0_; have HO_9 := n1_; have HO435 := n2_; have HB := n3_; have BK437 := n4_; have GW437 := n5_; have GE437 := n6_; clear n0_ n1_ n2_ n3_ n4_ n5_ n6_; clear hb hbox hg; have hcz56_0 : w55.cell? ⟨gb437, 0, none⟩ = some (.int .i64 0) := (blk_cell BK437.out 0).trans rfl; have hcz56_1 : w55.cell? ⟨gb437, 1, none⟩ = some (.int .i64 0) := (blk_cell BK437.out 1).trans rfl; have hcz56_2 : w55.cell? ⟨gb437, 2, none⟩ = some (.slice none 0 0) := (blk_cell BK437.out 2).trans rfl; have hfz56_0 := blk_frozen BK437.out 0; have hfz56_1 := blk_frozen BK437.out 1; have hfz56_2 := blk_frozen BK437.out 2; obtain ⟨Ao57, co57, eo57⟩ := Kd.R_slice HO435.out; subst eo57))
                    go_loopg [9, 14] kj15 (fun kq v9 v14 w' => ∃ (x8_3 : List Bool) (x9_3 : List Int) (x14_3 : Int), v14 = .int .i64 x14_3 ∧ Aside0 (tesseralaw05_HalfAnyShards.l1 kq a0 ji8 x8_3 x9_3 t436 x14_3 t431 t432 t433 = some r) ∧ Aside0 (kq ≤ kj15) ∧ Aside0 (Kd.R Kd.bool 4 w' w.heap.size (fun _ => True) v409 x8_3) ∧ Aside0 (Kd.R (Kd.int .i64) 3 w' w.heap.size (fun _ => True) v9 x9_3) ∧ Aside0 (Kd.R (Kd.int .u8) 5 w' w.heap.size (fun _ => True) (.slice Ao57 t433.length co57) t433) ∧ Aside0 (w'.heap[gb437]? = some (.cells #[.int .i64 t431, .int .i64 t432, (.slice Ao57 t433.length co57)] 43 (0, 0))) ∧ Aside0 (Below w.heap.size w w'))
                    case atStart => exact ⟨(x8_1), (x9_1), (0), (by first | rfl | (simp; done) | (simp [*]; done)), H', ⟨Nat.le_refl _⟩, ⟨by (with_reducible repeat (first | apply Kd.R_alloc | apply Kd.R_drewN | apply Kd.R_drew)); exact Kd.R_mono (Kd.R_far (p := ⟨gb437, 2, none⟩) (Kd.R_far (p := ⟨gb437, 1, none⟩) (Kd.R_far (p := ⟨gb437, 0, none⟩) (Kd.R_types HO_8.out BK437.out (by decide)) (fun _ hk => hk.2) (.int .i64 t431)) (fun _ hk => hk.2) (.int .i64 t432)) (fun _ hk => hk.2) (.slice Ao57 t433.length co57)) (fun _ hk => trivial)⟩, ⟨by (with_reducible repeat (first | apply Kd.R_alloc | apply Kd.R_drewN | apply Kd.R_drew)); exact Kd.R_mono (Kd.R_far (p := ⟨gb437, 2, none⟩) (Kd.R_far (p := ⟨gb437, 1, none⟩) (Kd.R_far (p := ⟨gb437, 0, none⟩) (Kd.R_types HO_9.out BK437.out (by decide)) (fun _ hk => hk.2) (.int .i64 t431)) (fun _ hk => hk.2) (.int .i64 t432)) (fun _ hk => hk.2) (.slice Ao57 t433.length co57)) (fun _ hk => trivial)⟩, ⟨by (with_reducible repeat (first | apply Kd.R_alloc | apply Kd.R_drewN | apply Kd.R_drew)); exact Kd.R_mono (Kd.R_far (p := ⟨gb437, 2, none⟩) (Kd.R_far (p := ⟨gb437, 1, none⟩) (Kd.R_far (p := ⟨gb437, 0, none⟩) (Kd.R_types HO435.out BK437.out (by decide)) (fun _ hk => hk.2) (.int .i64 t431)) (fun _ hk => hk.2) (.int .i64 t432)) (fun _ hk => hk.2) (.slice Ao57 t433.length co57)) (fun _ hk => trivial)⟩, ⟨by (with_reducible repeat (first | refine blk_drewN ?_ _ | refine blk_drew ?_ | refine blk_alloc ?_ _)); refine blk_put (cs := #[.int .i64 t431, .int .i64 t432, .slice none 0 0]) ?_ 2 _ rfl; (with_reducible repeat (first | refine blk_drewN ?_ _ | refine blk_drew ?_ | refine blk_alloc ?_ _)); refine blk_put (cs := #[.int .i64 t431, .int .i64 0, .slice none 0 0]) ?_ 1 _ rfl; (with_reducible repeat (first | refine blk_drewN ?_ _ | refine blk_drew ?_ | refine blk_alloc ?_ _)); refine blk_put (cs := #[.int .i64 0, .int .i64 0, .slice none 0 0]) ?_ 0 _ rfl; (with_reducible repeat (first | refine blk_drewN ?_ _ | refine blk_drew ?_ | refine blk_alloc ?_ _)); exact BK437.out⟩, ⟨by repeat (first | (with_reducible first | exact HB.out | apply below_alloc | apply pw_below_drewN | apply below_drew1 | refine below_set ?_ GE437.out) | exact HB.out)⟩⟩
                    case round =>
                      clear H'
                      try clear c1
                      try clear c2
                      try clear p2
                      try clear q2
                      try clear hx2
                      try clear c3
                      try clear c4
                      try clear p4
                      try clear q4
                      try clear hx4
                      try clear hf4
                      try clear c5
                      try clear p6
                      try clear c7
                      try clear c9
                      try clear c9b0
                      try clear c9b1
                      try clear c10
                      try clear c10b0
                      try clear c10b1
                      try clear c11
                      try clear c17
                      try clear c17b0
                      try clear c19
                      try clear c20
                      try clear c20b0
                      try clear c20b1
                      try clear c21
                      try clear c21b0
                      try clear c22
                      try clear c22b0
                      try clear c24
                      try clear c24b0
                      try clear c25
                      try clear c25b0
                      try clear q26
                      try clear c27
                      try clear p29
                      try clear q29
                      try clear hx29
                      try clear hf29
                      try clear c30
                      try clear c39
                      try clear c39b0
                      try clear c40
                      try clear c40b0
                      try clear p41
                      try clear q41
                      try clear hx41
                      try clear c42
                      try clear p42
                      try clear q42
                      try clear hx42
                      try clear p44
                      try clear q44
                      try clear hx44
                      try clear hf44
                      try clear c45
                      try clear hcz56_0
                      try clear hcz56_1
                      try clear hcz56_2
                      try clear hfz56_0
                      try clear hfz56_1
                      try clear hfz56_2
                      try clear hx29_0
                      try clear hx414_0
                      try clear hx415_0
                      try clear hx423_0
                      try clear hx44_0
                      try clear p2
                      try clear p29
                      try clear p414
                      try clear p415
                      try clear p423
                      try clear p44
                      try clear p6
                      try clear q29
                      try clear q414
                      try clear q415
                      try clear q423
                      try clear q44
                      obtain ⟨x8_3, x9_3, x14_3, rfl, HA, HK3, HO_8, HO_9, HO_438002, BK437, HB⟩ := hrel
                      cases gk with
                      | zero => exact absurd HA.out (by simp [tesseralaw05_HalfAnyShards.l1])
                      | succ k3 =>
                        have H := HA.out
                        clear HA
                        first | rw [tesseralaw05_HalfAnyShards.l1] at H | simp only [tesseralaw05_HalfAnyShards.l1] at H
                        have HC58 := Aside0.mk H
                        clear H
                        go_upto_region 19 with (fail)
                        go_cut [94] (fun v94 wc => ∃ (kq : Nat) (x94_57 : Bool), v94 = .bool x94_57 ∧ Aside0 (tesseralaw05_HalfAnyShards.j3 kq a0 ji8 x8_3 x9_3 t436 x14_3 x94_57 t431 t432 t433 = some r) ∧ Aside0 (kq ≤ k3) ∧ Aside0 (Kd.R Kd.bool 4 wc w.heap.size (fun _ => True) v409 x8_3) ∧ Aside0 (Kd.R (Kd.int .i64) 3 wc w.heap.size (fun _ => True) u9 x9_3) ∧ Aside0 (Kd.R (Kd.int .u8) 5 wc w.heap.size (fun _ => True) (.slice Ao57 t433.length co57) t433) ∧ Aside0 (wc.heap[gb437]? = some (.cells #[.int .i64 t431, .int .i64 t432, (.slice Ao57 t433.length co57)] 43 (0, 0))) ∧ Aside0 (Below w.heap.size w wc))
                        case first =>
                          have H := HC58.out
                          clear HC58
                          by_cases c59 : x14_3 < ji8
                          · rw [if_pos c59] at H
                            have c59b0 : decide (x14_3 < ji8) = true := decide_eq_true c59
                            clear c59
                            (first | rw [c59b0] | (simp only [i64_w, i32_w]; rw [c59b0]) | skip)
                            have H' := Aside0.mk H
                            clear H
                            obtain ⟨Ao60, co60, eo60⟩ := Kd.R_slice HO_9.out
                            subst eo60
                            go_wp2
                            go_meet
                            case rel => exact ⟨_, (decide ((x9_3.length : Int) < (wrap64 (2 * a0)))), (by first | rfl | (simp; done) | (simp [*]; done)), H', ⟨by have := HK1.out; have := HJ15.out; have := HK3.out; first | omega | exact Nat.le_refl _⟩, ⟨by (with_reducible repeat (first | apply Kd.R_alloc | apply Kd.R_drewN | apply Kd.R_drew)); exact HO_8.out⟩, ⟨by (with_reducible repeat (first | apply Kd.R_alloc | apply Kd.R_drewN | apply Kd.R_drew)); exact HO_9.out⟩, ⟨by (with_reducible repeat (first | apply Kd.R_alloc | apply Kd.R_drewN | apply Kd.R_drew)); exact HO_438002.out⟩, ⟨by (with_reducible repeat (first | refine blk_drewN ?_ _ | refine blk_drew ?_ | refine blk_alloc ?_ _)); exact BK437.out⟩, ⟨by repeat (first | (with_reducible first | exact HB.out | apply below_alloc | apply pw_below_drewN | apply below_drew1 | refine below_set ?_ GE437.out) | exact HB.out)⟩⟩
                          · rw [if_neg c59] at H
                            have c59b0 : decide (x14_3 < ji8) = false := decide_eq_false c59
                            clear c59
                            (first | rw [c59b0] | (simp only [i64_w, i32_w]; rw [c59b0]) | skip)
                            have H' := Aside0.mk H
                            clear H
                            go_wp2
                            go_meet
                            case rel => exact ⟨_, (false), (by first | rfl | (simp; done) | (simp [*]; done)), H', ⟨by have := HK1.out; have := HJ15.out; have := HK3.out; first | omega | exact Nat.le_refl _⟩, ⟨by (with_reducible repeat (first | apply Kd.R_alloc | apply Kd.R_drewN | apply Kd.R_drew)); exact HO_8.out⟩, ⟨by (with_reducible repeat (first | apply Kd.R_alloc | apply Kd.R_drewN | apply Kd.R_drew)); exact HO_9.out⟩, ⟨by (with_reducible repeat (first | apply Kd.R_alloc | apply Kd.R_drewN | apply Kd.R_drew)); exact HO_438002.out⟩, ⟨by (with_reducible repeat (first | refine blk_drewN ?_ _ | refine blk_drew ?_ | refine blk_alloc ?_ _)); exact BK437.out⟩, ⟨by repeat (first | (with_reducible first | exact HB.out | apply below_alloc | apply pw_below_drewN | apply below_drew1 | refine below_set ?_ GE437.out) | exact HB.out)⟩⟩
                        case rest =>
                          clear HC58
                          try clear c1
                          try clear c2
                          try clear p2
                          try clear q2
                          try clear hx2
                          try clear c3
                          try clear c4
                          try clear p4
                          try clear q4
                          try clear hx4
                          try clear hf4
                          try clear c5
                          try clear p6
                          try clear c7
                          try clear c9
                          try clear c9b0
                          try clear c9b1
                          try clear c10
                          try clear c10b0
                          try clear c10b1
                          try clear c11
                          try clear c17
                          try clear c17b0
                          try clear c19
                          try clear c20
                          try clear c20b0
                          try clear c20b1
                          try clear c21
                          try clear c21b0
                          try clear c22
                          try clear c22b0
                          try clear c24
                          try clear c24b0
                          try clear c25
                          try clear c25b0
                          try clear q26
                          try clear c27
                          try clear p29
                          try clear q29
                          try clear hx29
                          try clear hf29
                          try clear c30
                          try clear c39
                          try clear c39b0
                          try clear c40
                          try clear c40b0
                          try clear p41
                          try clear q41
                          try clear hx41
                          try clear c42
                          try clear p42
                          try clear q42
                          try clear hx42
                          try clear p44
                          try clear q44
                          try clear hx44
                          try clear hf44
                          try clear c45
                          try clear c59
                          try clear c59b0
                          try clear hcz56_0
                          try clear hcz56_1
                          try clear hcz56_2
                          try clear hfz56_0
                          try clear hfz56_1
                          try clear hfz56_2
                          try clear hx29_0
                          try clear hx414_0
                          try clear hx415_0
                          try clear hx423_0
                          try clear hx44_0
                          try clear p2
                          try clear p29
                          try clear p4
                          try clear p41
                          try clear p414
                          try clear p415
                          try clear p42
                          try clear p423
                          try clear p44
                          try clear p6
                          try clear q2
                          try clear q26
                          try clear q29
                          try clear q4
                          try clear q41
                          try clear q414
                          try clear q415
                          try clear q42
                          try clear q423
                          try clear q44
                          obtain ⟨kq, x94_57, rfl, HA, HJ57, HO_8, HO_9, HO_438002, BK437, HB⟩ := hcut
                          cases kq with
                          | zero => exact absurd HA.out (by simp [tesseralaw05_HalfAnyShards.j3])
                          | succ kj57 =>
                            have H := HA.out
                            clear HA
                            first | rw [tesseralaw05_HalfAnyShards.j3] at H | simp only [tesseralaw05_HalfAnyShards.j3] at H
                            by_cases c61 : x94_57 = true
                            · subst c61
                              have H1 : (if 0 ≤ x14_3 then (if x14_3 < (x8_3.length : Int) then (if rdOf false x8_3 x14_3 = true then (tesseralaw05_HalfAnyShards.l1 kj57 a0 ji8 x8_3 x9_3 t436 (wrap64 (x14_3 + 1)) t431 t432 t433) else ((some (([wrap64 (2 * x14_3), wrap64 ((wrap64 (2 * x14_3)) + 1)] : List Int) : List Int)).bind fun y440 => (if x9_3.length + y440.length < 17592186044416 then (tesseralaw05_HalfAnyShards.l1 kj57 a0 ji8 (x8_3.set (x14_3 : Int).toNat true) (x9_3 ++ y440) t436 (wrap64 (x14_3 + 1)) t431 t432 t433) else (none)))) else (none)) else (none)) = some r := by rw [if_pos rfl] at H; exact H
                              clear H
                              have H := H1
                              clear H1
                              by_cases c62 : 0 ≤ x14_3
                              · rw [if_pos c62] at H
                                have c62b0 : decide (0 ≤ x14_3) = true := decide_eq_true c62
                                clear c62
                                by_cases c63 : x14_3 < (x8_3.length : Int)
                                · rw [if_pos c63] at H
                                  have c63b0 : decide (x14_3 < (x8_3.length : Int)) = true := decide_eq_true c63
                                  clear c63
                                  obtain ⟨bq64, hbq64⟩ : ∃ b_ : Bool, b_ = (rdOf false x8_3 x14_3) := ⟨_, rfl⟩
                                  replace H : (if bq64 = true then (tesseralaw05_HalfAnyShards.l1 kj57 a0 ji8 x8_3 x9_3 t436 (wrap64 (x14_3 + 1)) t431 t432 t433) else ((some (([wrap64 (2 * x14_3), wrap64 ((wrap64 (2 * x14_3)) + 1)] : List Int) : List Int)).bind fun y440 => (if x9_3.length + y440.length < 17592186044416 then (tesseralaw05_HalfAnyShards.l1 kj57 a0 ji8 (x8_3.set (x14_3 : Int).toNat true) (x9_3 ++ y440) t436 (wrap64 (x14_3 + 1)) t431 t432 t433) else (none)))) = some r := by rw [← hbq64] at H; exact H
                                  have Nbq64 := Aside0.mk hbq64
                                  clear hbq64
                                  by_cases c65 : bq64 = true
                                  · subst c65
                                    have H1 : (tesseralaw05_HalfAnyShards.l1 kj57 a0 ji8 x8_3 x9_3 t436 (wrap64 (x14_3 + 1)) t431 t432 t433) = some r := by rw [if_pos rfl] at H; exact H
                                    clear H
                                    have H := H1
                                    clear H1
                                    have H' := Aside0.mk H
                                    clear H
                                    obtain ⟨Ao66, co66, eo66⟩ := Kd.R_slice HO_8.out
                                    subst eo66
                                    have p438 : 0 ≤ (x14_3 : Int) := of_decide_eq_true (by first | (with_reducible assumption) | assumption)
                                    have q438 : x14_3 < (x8_3.length : Int) := of_decide_eq_true (by first | (with_reducible assumption) | assumption)
                                    obtain ⟨ad438, e438, hx438_0⟩ := Kd.at_bool (Kd.R_reads' HO_8.out).2.2 x14_3 p438 q438
                                    (try rw [← Nbq64.out] at hx438_0)
                                    cases e438
                                    replace p438 := eq_true p438
                                    replace q438 := eq_true q438
                                    go_wp2
                                    go_roundg kj57
                                    case measure => have := HK1.out; have := HJ15.out; have := HK3.out; have := HJ57.out; omega
                                    case rel => exact ⟨(x8_3), (x9_3), (wrap64 (x14_3 + 1)), (by first | rfl | (simp; done) | (simp [*]; done)), H', ⟨by have := HK1.out; have := HJ15.out; have := HK3.out; have := HJ57.out; omega⟩, ⟨by (with_reducible repeat (first | apply Kd.R_alloc | apply Kd.R_drewN | apply Kd.R_drew)); exact HO_8.out⟩, ⟨by (with_reducible repeat (first | apply Kd.R_alloc | apply Kd.R_drewN | apply Kd.R_drew)); exact HO_9.out⟩, ⟨by (with_reducible repeat (first | apply Kd.R_alloc | apply Kd.R_drewN | apply Kd.R_drew)); exact HO_438002.out⟩, ⟨by (with_reducible repeat (first | refine blk_drewN ?_ _ | refine blk_drew ?_ | refine blk_alloc ?_ _)); exact BK437.out⟩, ⟨by repeat (first | (with_reducible first | exact HB.out | apply below_alloc | apply pw_below_drewN | apply below_drew1 | refine below_set ?_ GE437.out) | exact HB.out)⟩⟩
                                  · replace c65 := Bool.eq_false_iff.mpr c65
                                    subst c65
                                    have H1 : ((some (([wrap64 (2 * x14_3), wrap64 ((wrap64 (2 * x14_3)) + 1)] : List Int) : List Int)).bind fun y440 => (if x9_3.length + y440.length < 17592186044416 then (tesseralaw05_HalfAnyShards.l1 kj57 a0 ji8 (x8_3.set (x14_3 : Int).toNat true) (x9_3 ++ y440) t436 (wrap64 (x14_3 + 1)) t431 t432 t433) else (none))) = some r := by rw [if_neg (show ¬ (false = true) by decide)] at H; exact H
                                    clear H
                                    have H := H1
                                    clear H1
                                    obtain ⟨y439, hy439⟩ : ∃ y_ : List Bool, y_ = (x8_3.set (x14_3 : Int).toNat true) := ⟨_, rfl⟩
                                    replace H : ((some (([wrap64 (2 * x14_3), wrap64 ((wrap64 (2 * x14_3)) + 1)] : List Int) : List Int)).bind fun y440 => (if x9_3.length + y440.length < 17592186044416 then (tesseralaw05_HalfAnyShards.l1 kj57 a0 ji8 y439 (x9_3 ++ y440) t436 (wrap64 (x14_3 + 1)) t431 t432 t433) else (none))) = some r := by first | (rw [hy439]; with_reducible exact H) | (have H2_ := (Option.bind_some _ _).symm.trans H; rw [hy439]; with_reducible exact H2_) | (have H2_ := (Option.bind_some _ _).symm.trans H; with_reducible exact H2_) | with_reducible exact H | (rw [hy439]; exact H) | exact H
                                    have Ny439 := Aside0.mk hy439
                                    clear hy439
                                    obtain ⟨y440, hy440⟩ : ∃ y_ : List Int, y_ = (([wrap64 (2 * x14_3), wrap64 ((wrap64 (2 * x14_3)) + 1)] : List Int)) := ⟨_, rfl⟩
                                    replace H : (if x9_3.length + y440.length < 17592186044416 then (tesseralaw05_HalfAnyShards.l1 kj57 a0 ji8 y439 (x9_3 ++ y440) t436 (wrap64 (x14_3 + 1)) t431 t432 t433) else (none)) = some r := by first | (rw [hy440]; with_reducible exact H) | (have H2_ := (Option.bind_some _ _).symm.trans H; rw [hy440]; with_reducible exact H2_) | (have H2_ := (Option.bind_some _ _).symm.trans H; with_reducible exact H2_) | with_reducible exact H | (rw [hy440]; exact H) | exact H
                                    have Ny440 := Aside0.mk hy440
                                    clear hy440
                                    by_cases c68 : x9_3.length + y440.length < 17592186044416
                                    · rw [if_pos c68] at H
                                      have LMc68 := Aside0.mk c68
                                      clear c68
                                      obtain ⟨y443, hy443⟩ : ∃ y_ : List Int, y_ = (x9_3 ++ y440) := ⟨_, rfl⟩
                                      replace H : (tesseralaw05_HalfAnyShards.l1 kj57 a0 ji8 y439 y443 t436 (wrap64 (x14_3 + 1)) t431 t432 t433) = some r := by first | (rw [hy443]; with_reducible exact H) | (have H2_ := (Option.bind_some _ _).symm.trans H; rw [hy443]; with_reducible exact H2_) | (have H2_ := (Option.bind_some _ _).symm.trans H; with_reducible exact H2_) | with_reducible exact H | (rw [hy443]; exact H) | exact H
                                      have Ny443 := Aside0.mk hy443
                                      clear hy443
                                      have H' := Aside0.mk H
                                      clear H
                                      obtain ⟨Ao69, co69, eo69⟩ := Kd.R_slice HO_8.out
                                      subst eo69
                                      have p438 : 0 ≤ (x14_3 : Int) := of_decide_eq_true (by first | (with_reducible assumption) | assumption)
                                      have q438 : x14_3 < (x8_3.length : Int) := of_decide_eq_true (by first | (with_reducible assumption) | assumption)
                                      obtain ⟨ad438, e438, hx438_0⟩ := Kd.at_bool (Kd.R_reads' HO_8.out).2.2 x14_3 p438 q438
                                      (try rw [← Nbq64.out] at hx438_0)
                                      cases e438
                                      replace p438 := eq_true p438
                                      replace q438 := eq_true q438
                                      have p67 : 0 ≤ (x14_3 : Int) := of_decide_eq_true (by first | (with_reducible assumption) | assumption)
                                      have q67 : (x14_3 : Int) < ((x8_3.length : Int) : Int) := of_decide_eq_true (by first | (with_reducible assumption) | assumption)
                                      obtain ⟨go67, co67, eo67, gb67, gl67, cl67, HG67⟩ := Kd.R_form HO_8.out (by omega)
                                      (first | cases eo67 | (injection eo67 with ea_ en_ ec_; (first | subst ea_ | (injection ea_ with ea_; subst ea_)); subst ec_; clear en_))
                                      have GB67 := Aside0.mk gb67
                                      have GG67 := Aside0.mk HG67
                                      clear gb67 gl67 HG67
                                      (first | simp only [add_plain] at hx438_0 | skip)
                                      obtain ⟨hx67_0, hf67_0⟩ := Kd.R_celln false HO_8.out (x14_3 : Int) p67 q67
                                      replace p67 := eq_true p67
                                      replace q67 := eq_true q67
                                      have HP70 := Kd.R_putg HO_8.out (x14_3 : Int) true
                                      go_wp2_with (first | ((with_reducible refine gate_store (t := 4) (p := 104) rfl ?_); refine store_event (t := 4) (p := 104) (v := ?vo_w71) (w1 := (wc.setCell ⟨go67, (x14_3 : Int).toNat, none⟩ (.bool true))) ?hg ?ho ?hn ?hr ?_; (case ho => rfl); (case hg => rfl); (case hn => rfl); (case hr => first | (go_simp; done) | (go_simp; rfl)); intro w71 hw; have hg : wc.grownBy w71 (some go67) := (by rw [hw]; exact HP70.2); have hp_ : Kd.R Kd.bool 4 w71 w.heap.size (fun _ => True) (.slice (some ⟨go67, 0, none⟩) x8_3.length co69) y439 := (by rw [hw, Ny439.out]; exact HP70.1); clear HP70; have n0_ := Aside0.mk (hp_); have n1_ := Aside0.mk (Kd.R_over' (v := (.slice (some ⟨go67, 0, none⟩) x8_3.length co69)) (by (with_reducible repeat (first | apply Kd.R_alloc | apply Kd.R_drewN | apply Kd.R_drew)); exact HO_9.out) (Kd.R_typed HO_8.out) (by decide) hg); have n2_ := Aside0.mk (Kd.R_over' (v := (.slice (some ⟨go67, 0, none⟩) x8_3.length co69)) (by (with_reducible repeat (first | apply Kd.R_alloc | apply Kd.R_drewN | apply Kd.R_drew)); exact HO_438002.out) (Kd.R_typed HO_8.out) (by decide) hg); have n3_ := Aside0.mk (blk_grown (g := gb437) (o := .cells #[.int .i64 t431, .int .i64 t432, .slice Ao57 t433.length co57] 43 (0, 0)) (by (with_reducible repeat (first | refine blk_drewN ?_ _ | refine blk_drew ?_ | refine blk_alloc ?_ _)); exact BK437.out) hg (Kd.R_ne HO_8.out BK437.out (by decide))); have n4_ := Aside0.mk ((by rw [hw]; exact below_set (HB.out) GB67.out : Below w.heap.size w w71)); clear HO_8; clear HO_9; clear HO_438002; clear BK437; clear HB; have HO_8 := n0_; have HO_9 := n1_; have HO_438002 := n2_; have BK437 := n3_; have HB := n4_; clear n0_ n1_ n2_ n3_ n4_; clear hg hw hp_) | ((with_reducible refine gate_dst (N := 111) rfl ?_); (try (refine gate_guard (by rfl) ?_; dsimp only)); refine Kd.R_lit (Kd.int .i64) _ 3 ?hg (N := 111) ?hd (xs := ([wrap64 (2 * x14_3), wrap64 ((wrap64 (2 * x14_3)) + 1)] : List Int)) (inner := [.int .i64 (wrap64 (2 * x14_3)), .int .i64 (wrap64 ((wrap64 (2 * x14_3)) + 1))]) (ok := fun _ => True) (okp := fun _ => True) ?hr ?hp (fun _ hk => hk) trivial (Below.refl _ _) (Nat.le_refl _) (by simp) ?_; (case hd => rfl); (case hg => rfl); (case hr => first | (go_simp; done) | (go_simp; rfl)); (case hp => exact (Reps.one (show Kd.M (Kd.int .i64) _ _ _ (wrap64 (2 * x14_3)) [.int .i64 (wrap64 (2 * x14_3))] from rfl) (Reps.one (show Kd.M (Kd.int .i64) _ _ _ (wrap64 ((wrap64 (2 * x14_3)) + 1)) [.int .i64 (wrap64 ((wrap64 (2 * x14_3)) + 1))] from rfl) (Reps.none _ _)))); intro v441 w72 ho73 hb hg_ hnew_; clear hg_ hnew_; (first | rw [← Ny440.out] at ho73 | (simp only [Int.reduceToNat] at ho73; rw [← Ny440.out] at ho73)); have n0_ := Aside0.mk (Kd.R_below (by (with_reducible repeat (first | apply Kd.R_alloc | apply Kd.R_drewN | apply Kd.R_drew)); exact HO_8.out) hb); have n1_ := Aside0.mk (Kd.R_elder' (by (with_reducible repeat (first | apply Kd.R_alloc | apply Kd.R_drewN | apply Kd.R_drew)); exact HO_9.out) (Kd.R_base ho73) hb); have n2_ := Aside0.mk (Kd.R_below (by (with_reducible repeat (first | apply Kd.R_alloc | apply Kd.R_drewN | apply Kd.R_drew)); exact HO_438002.out) hb); have n3_ := Aside0.mk (Kd.R_lower (Kd.R_new' ho73 (Kd.R_lt (by (with_reducible repeat (first | apply Kd.R_alloc | apply Kd.R_drewN | apply Kd.R_drew)); exact HO_9.out))) (below_size (by repeat (first | (with_reducible first | exact HB.out | apply below_alloc | apply pw_below_drewN | apply below_drew1 | refine below_set ?_ GE437.out) | exact HB.out)))); have n4_ := Aside0.mk (blk_below (g := gb437) (o := .cells #[.int .i64 t431, .int .i64 t432, .slice Ao57 t433.length co57] 43 (0, 0)) (by (with_reducible repeat (first | refine blk_drewN ?_ _ | refine blk_drew ?_ | refine blk_alloc ?_ _)); exact BK437.out) hb); have n5_ := Aside0.mk (below_step (by repeat (first | (with_reducible first | exact HB.out | apply below_alloc | apply pw_below_drewN | apply below_drew1 | refine below_set ?_ GE437.out) | exact HB.out)) hb); clear HO_8; clear HO_9; clear HO_438002; clear BK437; clear HB; have HO_8 := n0_; have HO_9 := n1_; have HO_438002 := n2_; have HO442 := n3_; have BK437 := n4_; have HB := n5_; clear n0_ n1_ n2_ n3_ n4_ n5_; clear hb ho73; obtain ⟨Ao75, co75, eo75⟩ := Kd.R_slice HO442.out; subst eo75) | ((with_reducible refine gate_builtin (b := .append) (xs := #[.tmp 105, .tmp 111]) rfl ?_); (try (refine gate_guard (by rfl) ?_; dsimp only)); at_builtin; refine Kd.R_append_rows (Kd.int .i64) (w0 := w) w.heap.size rfl (.tmp 105) (.tmp 111) 25 3 (.int .i64 0) 8 rfl Tryd.underlying25 info3 rfl (by decide) (by omega) u9 x9_3 y440 _ _ _ (fun k_ => some k_ ≠ (.slice Ao75 y440.length co75 : Value).ownBlock) (fun _ => False) rfl rfl ?aO ?aR (fun _ _ h => h) (fun _ h => h.elim) ?aF ?aB ?aS ?aL ?_; (case aR => repeat (first | exact (Kd.R_reads' HO442.out).2.2 | (with_reducible refine Kd.C_alloc ?_ _) | (with_reducible refine Kd.C_drewN ?_ _) | (with_reducible refine Kd.C_drew ?_))); (case aB => exact (by repeat (first | (with_reducible first | exact HB.out | apply below_alloc | apply pw_below_drewN | apply below_drew1 | refine below_set ?_ GE437.out) | exact HB.out))); (case aF => exact (fun k_ hk => Kd.fresh' (Kd.R_lt (by (with_reducible repeat (first | apply Kd.R_alloc | apply Kd.R_drewN | apply Kd.R_drew)); exact HO442.out)) k_ hk)); (case aO => exact (by (with_reducible repeat (first | apply Kd.R_alloc | apply Kd.R_drewN | apply Kd.R_drew)); exact Kd.R_mono HO_9.out (fun _ hk => hk.2))); (case aS => exact (below_size (by repeat (first | (with_reducible first | exact HB.out | apply below_alloc | apply pw_below_drewN | apply below_drew1 | refine below_set ?_ GE437.out) | exact HB.out)))); (case aL => have := LMc68.out; omega); intro v444 w74 ho hb hg hat; rw [← Ny443.out] at ho; have n0_ := Aside0.mk (Kd.R_over' (by (with_reducible repeat (first | apply Kd.R_alloc | apply Kd.R_drewN | apply Kd.R_drew)); exact HO_8.out) (Kd.R_typed (by (with_reducible repeat (first | apply Kd.R_alloc | apply Kd.R_drewN | apply Kd.R_drew)); exact HO_9.out)) (by decide) hg); have n1_ := Aside0.mk (Kd.R_over' (by (with_reducible repeat (first | apply Kd.R_alloc | apply Kd.R_drewN | apply Kd.R_drew)); exact HO_438002.out) (Kd.R_typed (by (with_reducible repeat (first | apply Kd.R_alloc | apply Kd.R_drewN | apply Kd.R_drew)); exact HO_9.out)) (by decide) hg); have n2_ := Aside0.mk (blk_grown (g := gb437) (o := .cells #[.int .i64 t431, .int .i64 t432, .slice Ao57 t433.length co57] 43 (0, 0)) (by (with_reducible repeat (first | refine blk_drewN ?_ _ | refine blk_drew ?_ | refine blk_alloc ?_ _)); exact BK437.out) hg (Kd.R_ne HO_9.out BK437.out (by decide))); have n3_ := Aside0.mk (Kd.R_after (ok := (fun _ => True)) (by (with_reducible repeat (first | apply Kd.R_alloc | apply Kd.R_drewN | apply Kd.R_drew)); exact HO442.out) hg hat); have n4_ := Aside0.mk (hb); have n5_ := Aside0.mk (ho); clear HO_8; clear HO_438002; clear BK437; clear HO442; clear HB; clear HO_9; have HO_8 := n0_; have HO_438002 := n1_; have BK437 := n2_; have HO442 := n3_; have HB := n4_; have HO445 := n5_; clear n0_ n1_ n2_ n3_ n4_ n5_; clear ho hb hg hat))
                                      go_roundg kj57
                                      case measure => have := HK1.out; have := HJ15.out; have := HK3.out; have := HJ57.out; omega
                                      case rel => exact ⟨(y439), (y443), (wrap64 (x14_3 + 1)), (by first | rfl | (simp; done) | (simp [*]; done)), H', ⟨by have := HK1.out; have := HJ15.out; have := HK3.out; have := HJ57.out; omega⟩, ⟨by (with_reducible repeat (first | apply Kd.R_alloc | apply Kd.R_drewN | apply Kd.R_drew)); exact HO_8.out⟩, ⟨by (with_reducible repeat (first | apply Kd.R_alloc | apply Kd.R_drewN | apply Kd.R_drew)); exact Kd.R_mono HO445.out (fun _ hk => trivial)⟩, ⟨by (with_reducible repeat (first | apply Kd.R_alloc | apply Kd.R_drewN | apply Kd.R_drew)); exact HO_438002.out⟩, ⟨by (with_reducible repeat (first | refine blk_drewN ?_ _ | refine blk_drew ?_ | refine blk_alloc ?_ _)); exact BK437.out⟩, ⟨by repeat (first | (with_reducible first | exact HB.out | apply below_alloc | apply pw_below_drewN | apply below_drew1 | refine below_set ?_ GE437.out) | exact HB.out)⟩⟩
                                    · rw [if_neg c68] at H
                                      exact absurd H (by simp)
                                · rw [if_neg c63] at H
                                  exact absurd H (by simp)
                              · rw [if_neg c62] at H
                                exact absurd H (by simp)
                            · replace c61 := Bool.eq_false_iff.mpr c61
                              subst c61
                              have H1 : ((mat_Take.f kj57 t431 t432 t433 x9_3).bind fun bt446 => ((solve_Rank.f kj57 bt446.1 bt446.2.1 bt446.2.2.1).bind fun bt453 => (if (isNil t436) = true then (if (isNil bt446.2.2.2) = true then (if (isNil bt453.2) = true then (some (bt453.1 == (wrap64 (2 * a0)))) else (some false)) else (some false)) else (some false)))) = some r := by rw [if_neg (show ¬ (false = true) by decide)] at H; exact H
                              clear H
                              have H := H1
                              clear H1
                              replace H := Option.bind_eq_some_iff.mp H
                              obtain ⟨⟨t446, t447, t448, t451⟩, A760, H⟩ := H
                              replace H : ((solve_Rank.f kj57 t446 t447 t448).bind fun bt453 => (if (isNil t436) = true then (if (isNil t451) = true then (if (isNil bt453.2) = true then (some (bt453.1 == (wrap64 (2 * a0)))) else (some false)) else (some false)) else (some false))) = some r := H
                              have A76 := Aside0.mk A760
                              clear A760
                              replace H := Option.bind_eq_some_iff.mp H
                              obtain ⟨⟨t453, t454⟩, A770, H⟩ := H
                              replace H : (if (isNil t436) = true then (if (isNil t451) = true then (if (isNil t454) = true then (some (t453 == (wrap64 (2 * a0)))) else (some false)) else (some false)) else (some false)) = some r := H
                              have A77 := Aside0.mk A770
                              clear A770
                              have hq78 := fun (W_ : World) => errW_eql_nil t436 W_
                              by_cases c79 : (isNil t436) = true
                              · rw [if_pos c79] at H
                                have c79b0 : (isNil t436) = true := c79
                                clear c79
                                have hq80 := fun (W_ : World) => errW_eql_nil t451 W_
                                by_cases c81 : (isNil t451) = true
                                · rw [if_pos c81] at H
                                  have c81b0 : (isNil t451) = true := c81
                                  clear c81
                                  have hq82 := fun (W_ : World) => errW_eql_nil t454 W_
                                  by_cases c83 : (isNil t454) = true
                                  · rw [if_pos c83] at H
                                    have c83b0 : (isNil t454) = true := c83
                                    clear c83
                                    obtain rfl := Option.some.inj H
                                    have hcz84_0 : wc.cell? ⟨gb437, 0, none⟩ = some (.int .i64 t431) := (blk_cell BK437.out 0).trans rfl
                                    have hcz84_1 : wc.cell? ⟨gb437, 1, none⟩ = some (.int .i64 t432) := (blk_cell BK437.out 1).trans rfl
                                    have hcz84_2 : wc.cell? ⟨gb437, 2, none⟩ = some (.slice Ao57 t433.length co57) := (blk_cell BK437.out 2).trans rfl
                                    have hfz84_0 := blk_frozen BK437.out 0
                                    have hfz84_1 := blk_frozen BK437.out 1
                                    have hfz84_2 := blk_frozen BK437.out 2
                                    obtain ⟨Ao85, co85, eo85⟩ := Kd.R_slice HO_9.out
                                    subst eo85
                                    go_wp2_with (first | ((with_reducible refine gate_callee (f := 30) rfl ?_); refine goesL_ (some 116) rfl rfl Tryd.func30 (by kernel_rfl) rfl #[.agg #[.int .i64 t431, .int .i64 t432, .slice Ao57 t433.length co57], .slice Ao85 x9_3.length co85] rfl (by (try simp only [List.map_toArray, List.map_cons, List.map_nil]); first | done | rfl | (simp only [List.length_drop, List.length_take]; rfl)) ?_; (with_reducible refine (mat_Take.calls kj57 t431 t432 _ _ t433 _ _ x9_3 t446 t447 t448 t451 _ ?side1 ?side2 ?side3 ?side4 A76.out (Sent.sub (show ∀ c, c ∈ mat_Take.L → c ∈ tesseralaw05_HalfAnyShards.L by decide) (Sent.below HS.out (by repeat (first | (with_reducible first | exact HB.out | apply below_alloc | apply pw_below_drewN | apply below_drew1 | refine below_set ?_ GE437.out) | exact HB.out))))).mono ?_); (case side1 => repeat (first | exact (Kd.R_reads' HO_438002.out).2.2 | (with_reducible refine Kd.C_alloc ?_ _) | (with_reducible refine Kd.C_drewN ?_ _) | (with_reducible refine Kd.C_drew ?_))); (case side2 => exact (Kd.R_reads' HO_438002.out).2.1); (case side3 => repeat (first | exact (Kd.R_reads' HO_9.out).2.2 | (with_reducible refine Kd.C_alloc ?_ _) | (with_reducible refine Kd.C_drewN ?_ _) | (with_reducible refine Kd.C_drew ?_))); (case side4 => exact (Kd.R_reads' HO_9.out).2.1); rintro e w86 ⟨v449, rfl, ho0, hb⟩; refine ⟨_, rfl, ?_⟩; have n0_ := Aside0.mk (Kd.R_below (by (with_reducible repeat (first | apply Kd.R_alloc | apply Kd.R_drewN | apply Kd.R_drew)); exact HO_8.out) hb); have n1_ := Aside0.mk (Kd.R_below (by (with_reducible repeat (first | apply Kd.R_alloc | apply Kd.R_drewN | apply Kd.R_drew)); exact HO_9.out) hb); have n2_ := Aside0.mk (Kd.R_elder' (by (with_reducible repeat (first | apply Kd.R_alloc | apply Kd.R_drewN | apply Kd.R_drew)); exact HO_438002.out) (Kd.R_base ho0) hb); have n3_ := Aside0.mk (Kd.R_lower (Kd.R_new' ho0 (Kd.R_lt (by (with_reducible repeat (first | apply Kd.R_alloc | apply Kd.R_drewN | apply Kd.R_drew)); exact HO_438002.out))) (below_size (by repeat (first | (with_reducible first | exact HB.out | apply below_alloc | apply pw_below_drewN | apply below_drew1 | refine below_set ?_ GE437.out) | exact HB.out)))); have n4_ := Aside0.mk (blk_below (g := gb437) (o := .cells #[.int .i64 t431, .int .i64 t432, .slice Ao57 t433.length co57] 43 (0, 0)) (by (with_reducible repeat (first | refine blk_drewN ?_ _ | refine blk_drew ?_ | refine blk_alloc ?_ _)); exact BK437.out) hb); have n5_ := Aside0.mk (below_step (by repeat (first | (with_reducible first | exact HB.out | apply below_alloc | apply pw_below_drewN | apply below_drew1 | refine below_set ?_ GE437.out) | exact HB.out)) hb); clear HO_8; clear HO_9; clear HO_438002; clear BK437; clear HB; have HO_8 := n0_; have HO_9 := n1_; have HO_438002 := n2_; have HO450 := n3_; have BK437 := n4_; have HB := n5_; clear n0_ n1_ n2_ n3_ n4_ n5_; (try clear hb); (try clear hb2); (try clear hk); (try clear hi); (try clear ho0); (try simp only [errW_none, errW_some])) | ((with_reducible refine gate_dst (N := 15) rfl ?_); (try (refine gate_guard (by rfl) ?_; dsimp only)); refine box_event ?hg (N := 15) ?hd (cs := #[.int .i64 0, .int .i64 0, .slice none 0 0]) (t := 43) ?hr ?_; (case hd => rfl); (case hg => rfl); (case hr => first | (go_simp; done) | (go_simp; rfl)); intro gb452 hg w87 hbox hb; have n0_ := Aside0.mk (Kd.R_below (by (with_reducible repeat (first | apply Kd.R_alloc | apply Kd.R_drewN | apply Kd.R_drew)); exact HO_8.out) hb); have n1_ := Aside0.mk (Kd.R_below (by (with_reducible repeat (first | apply Kd.R_alloc | apply Kd.R_drewN | apply Kd.R_drew)); exact HO_9.out) hb); have n2_ := Aside0.mk (Kd.R_below (by (with_reducible repeat (first | apply Kd.R_alloc | apply Kd.R_drewN | apply Kd.R_drew)); exact HO_438002.out) hb); have n3_ := Aside0.mk (Kd.R_below (by (with_reducible repeat (first | apply Kd.R_alloc | apply Kd.R_drewN | apply Kd.R_drew)); exact HO450.out) hb); have n4_ := Aside0.mk (blk_below (g := gb437) (o := .cells #[.int .i64 t431, .int .i64 t432, .slice Ao57 t433.length co57] 43 (0, 0)) (by (with_reducible repeat (first | refine blk_drewN ?_ _ | refine blk_drew ?_ | refine blk_alloc ?_ _)); exact BK437.out) hb); have n5_ := Aside0.mk (below_step (by repeat (first | (with_reducible first | exact HB.out | apply below_alloc | apply pw_below_drewN | apply below_drew1 | refine below_set ?_ GE437.out) | exact HB.out)) hb); have n6_ := Aside0.mk (hbox); have n7_ := Aside0.mk ((by rw [hg]; exact (below_size (by repeat (first | (with_reducible first | exact HB.out | apply below_alloc | apply pw_below_drewN | apply below_drew1 | refine below_set ?_ GE437.out) | exact HB.out))) : w.heap.size ≤ gb452)); have n8_ := Aside0.mk ((by rw [hg]; exact (below_size (by repeat (first | (with_reducible first | exact HB.out | apply below_alloc | apply pw_below_drewN | apply below_drew1 | refine below_set ?_ GE437.out) | exact HB.out))) : w.heap.size ≤ gb452)); have n9_ := Aside0.mk ((by rw [hg]; exact Nat.ne_of_lt (blk_lt (g := gb437) (o := .cells #[.int .i64 t431, .int .i64 t432, .slice Ao57 t433.length co57] 43 (0, 0)) (by (with_reducible repeat (first | refine blk_drewN ?_ _ | refine blk_drew ?_ | refine blk_alloc ?_ _)); exact BK437.out)) : gb437 ≠ gb452)); have n10_ := Aside0.mk ((by rw [hg]; exact Nat.ne_of_gt (blk_lt (g := gb437) (o := .cells #[.int .i64 t431, .int .i64 t432, .slice Ao57 t433.length co57] 43 (0, 0)) (by (with_reducible repeat (first | refine blk_drewN ?_ _ | refine blk_drew ?_ | refine blk_alloc ?_ _)); exact BK437.out)) : gb452 ≠ gb437)); clear HO_8; clear HO_9; clear HO_438002; clear HO450; clear BK437; clear HB; have HO_8 := n0_; have HO_9 := n1_; have HO_438002 := n2_; have HO450 := n3_; have BK437 := n4_; have HB := n5_; have BK452 := n6_; have GW452 := n7_; have GE452 := n8_; have NB437_452 := n9_; have NB452_437 := n10_; clear n0_ n1_ n2_ n3_ n4_ n5_ n6_ n7_ n8_ n9_ n10_; clear hb hbox hg; have hnb88 := NB452_437.out; have hnc88 := NB437_452.out; have hcz89_0 : w87.cell? ⟨gb452, 0, none⟩ = some (.int .i64 0) := (blk_cell BK452.out 0).trans rfl; have hcz89_1 : w87.cell? ⟨gb452, 1, none⟩ = some (.int .i64 0) := (blk_cell BK452.out 1).trans rfl; have hcz89_2 : w87.cell? ⟨gb452, 2, none⟩ = some (.slice none 0 0) := (blk_cell BK452.out 2).trans rfl; have hfz89_0 := blk_frozen BK452.out 0; have hfz89_1 := blk_frozen BK452.out 1; have hfz89_2 := blk_frozen BK452.out 2; obtain ⟨Ao90, co90, eo90⟩ := Kd.R_slice HO450.out; subst eo90) | ((with_reducible refine gate_callee (f := 31) rfl ?_); refine goesL_ (some 121) rfl rfl Tryd.func31 (by kernel_rfl) rfl #[.agg #[.int .i64 t446, .int .i64 t447, .slice Ao90 t448.length co90]] rfl (by (try simp only [List.map_toArray, List.map_cons, List.map_nil]); first | done | rfl | (simp only [List.length_drop, List.length_take]; rfl)) ?_; (with_reducible refine (solve_Rank.calls kj57 t446 t447 _ _ t448 t453 t454 _ ?side1 ?side2 A77.out (Sent.sub (show ∀ c, c ∈ solve_Rank.L → c ∈ tesseralaw05_HalfAnyShards.L by decide) (Sent.below HS.out (by repeat (first | (with_reducible first | exact HB.out | apply below_alloc | apply pw_below_drewN | apply below_drew1 | refine below_set ?_ GE437.out | refine below_set ?_ GE452.out) | exact HB.out))))).mono ?_); (case side1 => refine (Kd.R_reads' (e := 5) (base := w.heap.size) (ok := fun k_ => (True ∧ some k_ ≠ (.slice Ao57 t433.length co57 : Value).ownBlock)) (n := t448.length) (c := co90) ?_).2.2; exact (by (with_reducible repeat (first | apply Kd.R_alloc | apply Kd.R_drewN | apply Kd.R_drew)); exact (Kd.R_mono (Kd.R_far (p := ⟨gb452, 2, none⟩) (Kd.R_far (p := ⟨gb452, 1, none⟩) (Kd.R_far (p := ⟨gb452, 0, none⟩) (Kd.R_types HO450.out BK452.out (by decide)) (fun _ hk => hk.2) (.int .i64 t446)) (fun _ hk => hk.2) (.int .i64 t447)) (fun _ hk => hk.2) (.slice Ao90 t448.length co90)) (fun _ h_ => h_.1)))); (case side2 => exact (Kd.R_reads' HO450.out).2.1); rintro e w91 ⟨rfl, hb⟩; refine ⟨_, rfl, ?_⟩; have n0_ := Aside0.mk (Kd.R_below (by (with_reducible repeat (first | apply Kd.R_alloc | apply Kd.R_drewN | apply Kd.R_drew)); exact (Kd.R_mono (Kd.R_far (p := ⟨gb452, 2, none⟩) (Kd.R_far (p := ⟨gb452, 1, none⟩) (Kd.R_far (p := ⟨gb452, 0, none⟩) (Kd.R_types HO_8.out BK452.out (by decide)) (fun _ hk => hk.2) (.int .i64 t446)) (fun _ hk => hk.2) (.int .i64 t447)) (fun _ hk => hk.2) (.slice Ao90 t448.length co90)) (fun _ h_ => h_.1))) hb); have n1_ := Aside0.mk (Kd.R_below (by (with_reducible repeat (first | apply Kd.R_alloc | apply Kd.R_drewN | apply Kd.R_drew)); exact (Kd.R_mono (Kd.R_far (p := ⟨gb452, 2, none⟩) (Kd.R_far (p := ⟨gb452, 1, none⟩) (Kd.R_far (p := ⟨gb452, 0, none⟩) (Kd.R_types HO_9.out BK452.out (by decide)) (fun _ hk => hk.2) (.int .i64 t446)) (fun _ hk => hk.2) (.int .i64 t447)) (fun _ hk => hk.2) (.slice Ao90 t448.length co90)) (fun _ h_ => h_.1))) hb); have n2_ := Aside0.mk (Kd.R_below (by (with_reducible repeat (first | apply Kd.R_alloc | apply Kd.R_drewN | apply Kd.R_drew)); exact (Kd.R_mono (Kd.R_far (p := ⟨gb452, 2, none⟩) (Kd.R_far (p := ⟨gb452, 1, none⟩) (Kd.R_far (p := ⟨gb452, 0, none⟩) (Kd.R_types HO_438002.out BK452.out (by decide)) (fun _ hk => hk.2) (.int .i64 t446)) (fun _ hk => hk.2) (.int .i64 t447)) (fun _ hk => hk.2) (.slice Ao90 t448.length co90)) (fun _ h_ => h_.1))) hb); have n3_ := Aside0.mk (Kd.R_below (by (with_reducible repeat (first | apply Kd.R_alloc | apply Kd.R_drewN | apply Kd.R_drew)); exact (Kd.R_mono (Kd.R_far (p := ⟨gb452, 2, none⟩) (Kd.R_far (p := ⟨gb452, 1, none⟩) (Kd.R_far (p := ⟨gb452, 0, none⟩) (Kd.R_types HO450.out BK452.out (by decide)) (fun _ hk => hk.2) (.int .i64 t446)) (fun _ hk => hk.2) (.int .i64 t447)) (fun _ hk => hk.2) (.slice Ao90 t448.length co90)) (fun _ h_ => h_.1))) hb); have n4_ := Aside0.mk (blk_below (g := gb437) (o := .cells #[.int .i64 t431, .int .i64 t432, .slice Ao57 t433.length co57] 43 (0, 0)) (by (with_reducible repeat (first | refine blk_drewN ?_ _ | refine blk_drew ?_ | refine blk_alloc ?_ _)); refine blk_far ?_ NB437_452.out _; (with_reducible repeat (first | refine blk_drewN ?_ _ | refine blk_drew ?_ | refine blk_alloc ?_ _)); refine blk_far ?_ NB437_452.out _; (with_reducible repeat (first | refine blk_drewN ?_ _ | refine blk_drew ?_ | refine blk_alloc ?_ _)); refine blk_far ?_ NB437_452.out _; (with_reducible repeat (first | refine blk_drewN ?_ _ | refine blk_drew ?_ | refine blk_alloc ?_ _)); exact BK437.out) hb); have n5_ := Aside0.mk (blk_below (g := gb452) (o := .cells #[.int .i64 t446, .int .i64 t447, .slice Ao90 t448.length co90] 43 (0, 0)) (by (with_reducible repeat (first | refine blk_drewN ?_ _ | refine blk_drew ?_ | refine blk_alloc ?_ _)); refine blk_put (cs := #[.int .i64 t446, .int .i64 t447, .slice none 0 0]) ?_ 2 _ rfl; (with_reducible repeat (first | refine blk_drewN ?_ _ | refine blk_drew ?_ | refine blk_alloc ?_ _)); refine blk_put (cs := #[.int .i64 t446, .int .i64 0, .slice none 0 0]) ?_ 1 _ rfl; (with_reducible repeat (first | refine blk_drewN ?_ _ | refine blk_drew ?_ | refine blk_alloc ?_ _)); refine blk_put (cs := #[.int .i64 0, .int .i64 0, .slice none 0 0]) ?_ 0 _ rfl; (with_reducible repeat (first | refine blk_drewN ?_ _ | refine blk_drew ?_ | refine blk_alloc ?_ _)); exact BK452.out) hb); have n6_ := Aside0.mk (below_step (by repeat (first | (with_reducible first | exact HB.out | apply below_alloc | apply pw_below_drewN | apply below_drew1 | refine below_set ?_ GE437.out | refine below_set ?_ GE452.out) | exact HB.out)) hb); clear HO_8; clear HO_9; clear HO_438002; clear HO450; clear BK437; clear BK452; clear HB; have HO_8 := n0_; have HO_9 := n1_; have HO_438002 := n2_; have HO450 := n3_; have BK437 := n4_; have BK452 := n5_; have HB := n6_; clear n0_ n1_ n2_ n3_ n4_ n5_ n6_; (try clear hb); (try clear hb2); (try clear hk); (try clear hi); (try simp only [errW_none, errW_some])))
                                    go_ret
                                    exact ⟨by first | rfl | (simp [errW_none, errW_some] <;> rfl) | (simp only [← hji8]; first | rfl | (simp [errW_none, errW_some] <;> rfl)) | (simp [*, errW_none, errW_some] <;> rfl), by repeat (first | (with_reducible first | exact HB.out | apply below_alloc | apply pw_below_drewN | apply below_drew1 | refine below_set ?_ GE437.out | refine below_set ?_ GE452.out) | exact HB.out)⟩
                                  · rw [if_neg c83] at H
                                    have c83b0 : (isNil t454) = false := by simpa using c83
                                    clear c83
                                    exact absurd ((Option.some.inj H).trans HT.out) (by decide)
                                · rw [if_neg c81] at H
                                  have c81b0 : (isNil t451) = false := by simpa using c81
                                  clear c81
                                  exact absurd ((Option.some.inj H).trans HT.out) (by decide)
                              · rw [if_neg c79] at H
                                have c79b0 : (isNil t436) = false := by simpa using c79
                                clear c79
                                exact absurd ((Option.some.inj H).trans HT.out) (by decide)
        · rw [if_neg c10] at H
          exact absurd H (by simp)
      · rw [if_neg c9] at H
        exact absurd H (by simp)
    · replace c7 := Bool.eq_false_iff.mpr c7
      subst c7
      have H1 : (some true) = some r := by rw [if_neg (show ¬ (false = true) by decide)] at H; exact H
      clear H
      have H := H1
      clear H1
      obtain rfl := Option.some.inj H
      go_enter Tryd.func9, Tryd.ntmps9
      go_wp2_with (first | ((with_reducible refine gate_callee (f := 10) rfl ?_); refine goesL_ (some 19) rfl rfl Tryd.func10 (by kernel_rfl) rfl #[] rfl (by (try simp only [List.map_toArray, List.map_cons, List.map_nil]); first | done | rfl | (simp only [List.length_drop, List.length_take]; rfl)) ?_; (with_reducible refine (tesseralaw05_alive.calls k  true _ A4.out (Sent.sub (show ∀ c, c ∈ tesseralaw05_alive.L → c ∈ tesseralaw05_HalfAnyShards.L by decide) (Sent.below HS.out (by repeat (first | (with_reducible first | exact HB.out | apply below_alloc | apply pw_below_drewN | apply below_drew1) | exact HB.out))))).mono ?_); rintro e w92 ⟨rfl, hb⟩; refine ⟨_, rfl, ?_⟩; have n0_ := Aside0.mk (below_step (by repeat (first | (with_reducible first | exact HB.out | apply below_alloc | apply pw_below_drewN | apply below_drew1) | exact HB.out)) hb); clear HB; have HB := n0_; clear n0_; (try clear hb); (try clear hb2); (try clear hk); (try clear hi)) | ((with_reducible refine gate_callee (f := 11) rfl ?_); refine goesL_ (some 23) rfl rfl Tryd.func11 (by kernel_rfl) rfl #[.int .i64 a0, .int .i64 a1] rfl (by (try simp only [List.map_toArray, List.map_cons, List.map_nil]); first | done | rfl | (simp only [List.length_drop, List.length_take]; rfl)) ?_; (with_reducible refine (tesseraref04_Legal.calls a0 a1 false _ A6.out).mono ?_); rintro e w' ⟨rfl, ⟨nd, rfl⟩⟩; refine ⟨_, rfl, ?_⟩))
      go_ret
      exact ⟨by first | rfl | (simp [errW_none, errW_some] <;> rfl) | (simp [*, errW_none, errW_some] <;> rfl), by repeat (first | (with_reducible first | exact HB.out | apply below_alloc | apply pw_below_drewN | apply below_drew1) | exact HB.out)⟩
  · replace c5 := Bool.eq_false_iff.mpr c5
    subst c5
    have H1 : (some false) = some r := by rw [if_neg (show ¬ (false = true) by decide)] at H; exact H
    clear H
    have H := H1
    clear H1
    exact absurd ((Option.some.inj H).trans HT.out) (by decide)

end Go.Proofs.YtnnondbimdmcaaaDoor.F
