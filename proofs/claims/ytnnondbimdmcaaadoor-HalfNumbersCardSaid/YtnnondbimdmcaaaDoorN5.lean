/- What some functions come to, each a function of its own text; joined out of: F6. No conditions but those in each theorem. -/
import Derived.Test.YtnnondbimdmcaaaDoorN1
import Derived.Test.YtnnondbimdmcaaaDoorN4
import Derived.Test.YtnnondbimdmcaaaDoorN2
namespace Go.Proofs.YtnnondbimdmcaaaDoor.F
open Go.RowKit Go.Proofs.YtnnondbimdmcaaaDoorW.PrintWords Go.Proofs.YtnnondbimdmcaaaDoorW.PrintLast Go.Proofs.YtnnondbimdmcaaaDoorW.PrintMore
attribute [local go_sem] max2_int min2_int max_two min_two max_three min_three max_four min_four   -- for this text's walks alone
set_option linter.unusedVariables false
set_option linter.unusedSimpArgs false
set_option linter.unusedSectionVars false
open Go.Proofs.YtnnondbimdmcaaaDoor
variable [Errs]

/-! ### tesseralaw05_HalfNumbers: function 6 -/
def tesseralaw05_HalfNumbers.L : List Int := [1, 4, 12]
mutual
def tesseralaw05_HalfNumbers.j0 : Nat → Int → Int → Int → Option Int → Int → Int → Option Int → Int → Option Int → List Int → Option Int → Int → Int → Option (Bool)
  | 0, _, _, _, _, _, _, _, _, _, _, _, _, _ => none
  | k + 1, x0, x1, x7, x8, x9, x10, x11, x12, x13, x14, x15, x204000, x204001 => if x204000 < 0 then (tesseralaw05_HalfNumbers.j1 k x0 x1 x7 x8 x9 x10 x11 x12 x13 x14 x15 true x204000 x204001) else (if x204000 ≥ (wrap64 (x0 + x1)) then (tesseralaw05_HalfNumbers.j1 k x0 x1 x7 x8 x9 x10 x11 x12 x13 x14 x15 true x204000 x204001) else (if x204001 < 0 then (tesseralaw05_HalfNumbers.j1 k x0 x1 x7 x8 x9 x10 x11 x12 x13 x14 x15 true x204000 x204001) else (tesseralaw05_HalfNumbers.j1 k x0 x1 x7 x8 x9 x10 x11 x12 x13 x14 x15 (decide (x204001 > 1)) x204000 x204001)))
def tesseralaw05_HalfNumbers.j1 : Nat → Int → Int → Int → Option Int → Int → Int → Option Int → Int → Option Int → List Int → Option Int → Bool → Int → Int → Option (Bool)
  | 0, _, _, _, _, _, _, _, _, _, _, _, _, _, _ => none
  | k + 1, x0, x1, x7, x8, x9, x10, x11, x12, x13, x14, x15, x118, x204000, x204001 => if x118 = true then (if (errOk tesseralaw05_HalfNumbers.L x8) = true then (if ((errEq x8 4) = true) then (if x7 = 0 then (tesseralaw05_HalfNumbers.j2 k x0 x1 x9 x10 x11 x12 x13 x14 x15 x204000 x204001) else (some false)) else (some false)) else (none)) else (if ((isNil x8) = true) then (if x7 = (wrap64 ((wrap64 (2 * x204000)) + x204001)) then (tesseralaw05_HalfNumbers.j2 k x0 x1 x9 x10 x11 x12 x13 x14 x15 x204000 x204001) else (some false)) else (some false))
def tesseralaw05_HalfNumbers.j2 : Nat → Int → Int → Int → Int → Option Int → Int → Option Int → List Int → Option Int → Int → Int → Option (Bool)
  | 0, _, _, _, _, _, _, _, _, _, _, _ => none
  | k + 1, x0, x1, x9, x10, x11, x12, x13, x14, x15, x204000, x204001 => if x204000 < 0 then (tesseralaw05_HalfNumbers.j3 k x0 x1 x9 x10 x11 x12 x13 x14 x15 true x204000 x204001) else (tesseralaw05_HalfNumbers.j3 k x0 x1 x9 x10 x11 x12 x13 x14 x15 (decide (x204000 ≥ (wrap64 (2 * (wrap64 (x0 + x1)))))) x204000 x204001)
def tesseralaw05_HalfNumbers.j3 : Nat → Int → Int → Int → Int → Option Int → Int → Option Int → List Int → Option Int → Bool → Int → Int → Option (Bool)
  | 0, _, _, _, _, _, _, _, _, _, _, _, _ => none
  | k + 1, x0, x1, x9, x10, x11, x12, x13, x14, x15, x149, x204000, x204001 => if x149 = true then (if (errOk tesseralaw05_HalfNumbers.L x11) = true then (if ((errEq x11 4) = true) then (if x9 = 0 then (if x10 = 0 then (tesseralaw05_HalfNumbers.j4 k x0 x1 x12 x13 x14 x15 x204000 x204001) else (some false)) else (some false)) else (some false)) else (none)) else (if ((isNil x11) = true) then (if x9 = (wrap64 (Int.tdiv x204000 2)) then (if x10 = (Int.tmod x204000 2) then (tesseralaw05_HalfNumbers.j4 k x0 x1 x12 x13 x14 x15 x204000 x204001) else (some false)) else (some false)) else (some false))
def tesseralaw05_HalfNumbers.j4 : Nat → Int → Int → Int → Option Int → List Int → Option Int → Int → Int → Option (Bool)
  | 0, _, _, _, _, _, _, _, _ => none
  | k + 1, x0, x1, x12, x13, x14, x15, x204000, x204001 => if x204000 < 0 then (tesseralaw05_HalfNumbers.j5 k x0 x1 x12 x13 x14 x15 true x204000 x204001) else (tesseralaw05_HalfNumbers.j5 k x0 x1 x12 x13 x14 x15 (decide (x204000 ≥ x0)) x204000 x204001)
def tesseralaw05_HalfNumbers.j5 : Nat → Int → Int → Int → Option Int → List Int → Option Int → Bool → Int → Int → Option (Bool)
  | 0, _, _, _, _, _, _, _, _, _ => none
  | k + 1, x0, x1, x12, x13, x14, x15, x185, x204000, x204001 => if x185 = true then (if (errOk tesseralaw05_HalfNumbers.L x13) = true then (if ((errEq x13 12) = true) then (if x12 = 0 then (tesseralaw05_HalfNumbers.j6 k x0 x1 x14 x15 x204000 x204001) else (some false)) else (some false)) else (none)) else (if ((isNil x13) = true) then ((tesseraref05_Carrier.f k x0 x1 x204000).bind fun t217 => (if x12 = t217 then (tesseralaw05_HalfNumbers.j6 k x0 x1 x14 x15 x204000 x204001) else (some false))) else (some false))
def tesseralaw05_HalfNumbers.j6 : Nat → Int → Int → List Int → Option Int → Int → Int → Option (Bool)
  | 0, _, _, _, _, _, _ => none
  | k + 1, x0, x1, x14, x15, x204000, x204001 => if x204000 < 0 then (tesseralaw05_HalfNumbers.j7 k x0 x1 x14 x15 true x204000 x204001) else (tesseralaw05_HalfNumbers.j7 k x0 x1 x14 x15 (decide (x204000 ≥ x1)) x204000 x204001)
def tesseralaw05_HalfNumbers.j7 : Nat → Int → Int → List Int → Option Int → Bool → Int → Int → Option (Bool)
  | 0, _, _, _, _, _, _, _ => none
  | k + 1, x0, x1, x14, x15, x212, x204000, x204001 => if x212 = true then (if (errOk tesseralaw05_HalfNumbers.L x15) = true then (if (errEq x15 12) = true then (some ((x14.length : Int) == 0)) else (some false)) else (none)) else (tesseralaw05_HalfNumbers.l0 k x0 x1 x14 x15 (([] : List Int)) 0 x204000 x204001)
def tesseralaw05_HalfNumbers.l0 : Nat → Int → Int → List Int → Option Int → List Int → Int → Int → Int → Option (Bool)
  | 0, _, _, _, _, _, _, _, _ => none
  | k + 1, x0, x1, x14, x15, x16, x17, x204000, x204001 => if x17 < x0 then ((tesseraref05_Carrier.f k x0 x1 x17).bind fun t221 => (if t221 = x204000 then (if x16.length < 17592186044416 then (tesseralaw05_HalfNumbers.l0 k x0 x1 x14 x15 (x16 ++ [x17]) (wrap64 (x17 + 1)) x204000 x204001) else (none)) else (tesseralaw05_HalfNumbers.l0 k x0 x1 x14 x15 x16 (wrap64 (x17 + 1)) x204000 x204001))) else (if (isNil x15) = true then ((tesseranum_SameInts.f k x14 x16).bind fun t225 => (some t225)) else (some false))
end
def tesseralaw05_HalfNumbers.f (k : Nat) (a0 : Int) (a1 : Int) (a2_0 : Int) (a2_1 : Int) : Option (Bool) := (tesseralaw05_alive.f k).bind fun t204 => (if t204 = true then ((half_Of.f a0 a1 a2_0 a2_1).bind fun bt205 => ((half_Split.f a0 a1 a2_0).bind fun bt207 => ((half_Carrier.f a0 a1 a2_0).bind fun bt210 => ((half_Carried.f k a0 a1 a2_0).bind fun bt212 => ((tesseraref04_Legal.f a0 a1).bind fun t216 => (if t216 = true then (tesseralaw05_HalfNumbers.j0 k a0 a1 bt205.1 bt205.2 bt207.1 bt207.2.1 bt207.2.2 bt210.1 bt210.2 bt212.1 bt212.2 a2_0 a2_1) else (if (errOk tesseralaw05_HalfNumbers.L bt205.2) = true then (if (errEq bt205.2 1) = true then (if (errOk tesseralaw05_HalfNumbers.L bt207.2.2) = true then (if (errEq bt207.2.2 1) = true then (if (errOk tesseralaw05_HalfNumbers.L bt210.2) = true then (if (errEq bt210.2 1) = true then (if (errOk tesseralaw05_HalfNumbers.L bt212.2) = true then (if (errEq bt212.2 1) = true then (if bt205.1 = 0 then (if bt207.1 = 0 then (if bt207.2.1 = 0 then (if bt210.1 = 0 then (some ((bt212.1.length : Int) == 0)) else (some false)) else (some false)) else (some false)) else (some false)) else (some false)) else (none)) else (some false)) else (none)) else (some false)) else (none)) else (some false)) else (none)))))))) else (some false))
theorem tesseralaw05_HalfNumbers.mono_l : ∀ k, (∀ y0 y1 y2 y3 y4 y5 y6 y7 y8 y9 y10 y11 y12, LeO (tesseralaw05_HalfNumbers.j0 k y0 y1 y2 y3 y4 y5 y6 y7 y8 y9 y10 y11 y12) (tesseralaw05_HalfNumbers.j0 (k + 1) y0 y1 y2 y3 y4 y5 y6 y7 y8 y9 y10 y11 y12)) ∧ (∀ y0 y1 y2 y3 y4 y5 y6 y7 y8 y9 y10 y11 y12 y13, LeO (tesseralaw05_HalfNumbers.j1 k y0 y1 y2 y3 y4 y5 y6 y7 y8 y9 y10 y11 y12 y13) (tesseralaw05_HalfNumbers.j1 (k + 1) y0 y1 y2 y3 y4 y5 y6 y7 y8 y9 y10 y11 y12 y13)) ∧ (∀ y0 y1 y2 y3 y4 y5 y6 y7 y8 y9 y10, LeO (tesseralaw05_HalfNumbers.j2 k y0 y1 y2 y3 y4 y5 y6 y7 y8 y9 y10) (tesseralaw05_HalfNumbers.j2 (k + 1) y0 y1 y2 y3 y4 y5 y6 y7 y8 y9 y10)) ∧ (∀ y0 y1 y2 y3 y4 y5 y6 y7 y8 y9 y10 y11, LeO (tesseralaw05_HalfNumbers.j3 k y0 y1 y2 y3 y4 y5 y6 y7 y8 y9 y10 y11) (tesseralaw05_HalfNumbers.j3 (k + 1) y0 y1 y2 y3 y4 y5 y6 y7 y8 y9 y10 y11)) ∧ (∀ y0 y1 y2 y3 y4 y5 y6 y7, LeO (tesseralaw05_HalfNumbers.j4 k y0 y1 y2 y3 y4 y5 y6 y7) (tesseralaw05_HalfNumbers.j4 (k + 1) y0 y1 y2 y3 y4 y5 y6 y7)) ∧ (∀ y0 y1 y2 y3 y4 y5 y6 y7 y8, LeO (tesseralaw05_HalfNumbers.j5 k y0 y1 y2 y3 y4 y5 y6 y7 y8) (tesseralaw05_HalfNumbers.j5 (k + 1) y0 y1 y2 y3 y4 y5 y6 y7 y8)) ∧ (∀ y0 y1 y2 y3 y4 y5, LeO (tesseralaw05_HalfNumbers.j6 k y0 y1 y2 y3 y4 y5) (tesseralaw05_HalfNumbers.j6 (k + 1) y0 y1 y2 y3 y4 y5)) ∧ (∀ y0 y1 y2 y3 y4 y5 y6, LeO (tesseralaw05_HalfNumbers.j7 k y0 y1 y2 y3 y4 y5 y6) (tesseralaw05_HalfNumbers.j7 (k + 1) y0 y1 y2 y3 y4 y5 y6)) ∧ (∀ y0 y1 y2 y3 y4 y5 y6 y7, LeO (tesseralaw05_HalfNumbers.l0 k y0 y1 y2 y3 y4 y5 y6 y7) (tesseralaw05_HalfNumbers.l0 (k + 1) y0 y1 y2 y3 y4 y5 y6 y7))
  | 0 => ⟨fun _ _ _ _ _ _ _ _ _ _ _ _ _ r h => by simp [tesseralaw05_HalfNumbers.j0] at h, fun _ _ _ _ _ _ _ _ _ _ _ _ _ _ r h => by simp [tesseralaw05_HalfNumbers.j1] at h, fun _ _ _ _ _ _ _ _ _ _ _ r h => by simp [tesseralaw05_HalfNumbers.j2] at h, fun _ _ _ _ _ _ _ _ _ _ _ _ r h => by simp [tesseralaw05_HalfNumbers.j3] at h, fun _ _ _ _ _ _ _ _ r h => by simp [tesseralaw05_HalfNumbers.j4] at h, fun _ _ _ _ _ _ _ _ _ r h => by simp [tesseralaw05_HalfNumbers.j5] at h, fun _ _ _ _ _ _ r h => by simp [tesseralaw05_HalfNumbers.j6] at h, fun _ _ _ _ _ _ _ r h => by simp [tesseralaw05_HalfNumbers.j7] at h, fun _ _ _ _ _ _ _ _ r h => by simp [tesseralaw05_HalfNumbers.l0] at h⟩
  | k + 1 => by
    obtain ⟨ih0, ih1, ih2, ih3, ih4, ih5, ih6, ih7, ih8⟩ := tesseralaw05_HalfNumbers.mono_l k
    refine ⟨?_, ?_, ?_, ?_, ?_, ?_, ?_, ?_, ?_⟩
    · intro y0 y1 y2 y3 y4 y5 y6 y7 y8 y9 y10 y11 y12
      unfold tesseralaw05_HalfNumbers.j0
      repeat' first
      | (with_reducible exact ih0 _ _ _ _ _ _ _ _ _ _ _ _ _)
      | (with_reducible exact ih1 _ _ _ _ _ _ _ _ _ _ _ _ _ _)
      | (with_reducible exact ih2 _ _ _ _ _ _ _ _ _ _ _)
      | (with_reducible exact ih3 _ _ _ _ _ _ _ _ _ _ _ _)
      | (with_reducible exact ih4 _ _ _ _ _ _ _ _)
      | (with_reducible exact ih5 _ _ _ _ _ _ _ _ _)
      | (with_reducible exact ih6 _ _ _ _ _ _)
      | (with_reducible exact ih7 _ _ _ _ _ _ _)
      | (with_reducible exact ih8 _ _ _ _ _ _ _ _)
      | (with_reducible exact half_Carried.mono _ _ _ _)
      | (with_reducible exact tesseralaw05_alive.mono _)
      | (with_reducible exact tesseranum_SameInts.mono _ _ _)
      | (with_reducible exact tesseraref05_Carrier.mono _ _ _ _)
      | (with_reducible exact LeO.refl _)
      | (with_reducible exact LeO.none _)
      | (with_reducible refine LeO.ite ?_ ?_)
      | (with_reducible refine LeO.bind ?_ (fun _ => ?_))
      | exact ih0 _ _ _ _ _ _ _ _ _ _ _ _ _
      | exact ih1 _ _ _ _ _ _ _ _ _ _ _ _ _ _
      | exact ih2 _ _ _ _ _ _ _ _ _ _ _
      | exact ih3 _ _ _ _ _ _ _ _ _ _ _ _
      | exact ih4 _ _ _ _ _ _ _ _
      | exact ih5 _ _ _ _ _ _ _ _ _
      | exact ih6 _ _ _ _ _ _
      | exact ih7 _ _ _ _ _ _ _
      | exact ih8 _ _ _ _ _ _ _ _
      | exact half_Carried.mono _ _ _ _
      | exact tesseralaw05_alive.mono _
      | exact tesseranum_SameInts.mono _ _ _
      | exact tesseraref05_Carrier.mono _ _ _ _
      | exact LeO.none _
      | refine LeO.ite ?_ ?_
      | refine LeO.bind ?_ (fun _ => ?_)
    · intro y0 y1 y2 y3 y4 y5 y6 y7 y8 y9 y10 y11 y12 y13
      unfold tesseralaw05_HalfNumbers.j1
      repeat' first
      | (with_reducible exact ih0 _ _ _ _ _ _ _ _ _ _ _ _ _)
      | (with_reducible exact ih1 _ _ _ _ _ _ _ _ _ _ _ _ _ _)
      | (with_reducible exact ih2 _ _ _ _ _ _ _ _ _ _ _)
      | (with_reducible exact ih3 _ _ _ _ _ _ _ _ _ _ _ _)
      | (with_reducible exact ih4 _ _ _ _ _ _ _ _)
      | (with_reducible exact ih5 _ _ _ _ _ _ _ _ _)
      | (with_reducible exact ih6 _ _ _ _ _ _)
      | (with_reducible exact ih7 _ _ _ _ _ _ _)
      | (with_reducible exact ih8 _ _ _ _ _ _ _ _)
      | (with_reducible exact half_Carried.mono _ _ _ _)
      | (with_reducible exact tesseralaw05_alive.mono _)
      | (with_reducible exact tesseranum_SameInts.mono _ _ _)
      | (with_reducible exact tesseraref05_Carrier.mono _ _ _ _)
      | (with_reducible exact LeO.refl _)
      | (with_reducible exact LeO.none _)
      | (with_reducible refine LeO.ite ?_ ?_)
      | (with_reducible refine LeO.bind ?_ (fun _ => ?_))
      | exact ih0 _ _ _ _ _ _ _ _ _ _ _ _ _
      | exact ih1 _ _ _ _ _ _ _ _ _ _ _ _ _ _
      | exact ih2 _ _ _ _ _ _ _ _ _ _ _
      | exact ih3 _ _ _ _ _ _ _ _ _ _ _ _
      | exact ih4 _ _ _ _ _ _ _ _
      | exact ih5 _ _ _ _ _ _ _ _ _
      | exact ih6 _ _ _ _ _ _
      | exact ih7 _ _ _ _ _ _ _
      | exact ih8 _ _ _ _ _ _ _ _
      | exact half_Carried.mono _ _ _ _
      | exact tesseralaw05_alive.mono _
      | exact tesseranum_SameInts.mono _ _ _
      | exact tesseraref05_Carrier.mono _ _ _ _
      | exact LeO.none _
      | refine LeO.ite ?_ ?_
      | refine LeO.bind ?_ (fun _ => ?_)
    · intro y0 y1 y2 y3 y4 y5 y6 y7 y8 y9 y10
      unfold tesseralaw05_HalfNumbers.j2
      repeat' first
      | (with_reducible exact ih0 _ _ _ _ _ _ _ _ _ _ _ _ _)
      | (with_reducible exact ih1 _ _ _ _ _ _ _ _ _ _ _ _ _ _)
      | (with_reducible exact ih2 _ _ _ _ _ _ _ _ _ _ _)
      | (with_reducible exact ih3 _ _ _ _ _ _ _ _ _ _ _ _)
      | (with_reducible exact ih4 _ _ _ _ _ _ _ _)
      | (with_reducible exact ih5 _ _ _ _ _ _ _ _ _)
      | (with_reducible exact ih6 _ _ _ _ _ _)
      | (with_reducible exact ih7 _ _ _ _ _ _ _)
      | (with_reducible exact ih8 _ _ _ _ _ _ _ _)
      | (with_reducible exact half_Carried.mono _ _ _ _)
      | (with_reducible exact tesseralaw05_alive.mono _)
      | (with_reducible exact tesseranum_SameInts.mono _ _ _)
      | (with_reducible exact tesseraref05_Carrier.mono _ _ _ _)
      | (with_reducible exact LeO.refl _)
      | (with_reducible exact LeO.none _)
      | (with_reducible refine LeO.ite ?_ ?_)
      | (with_reducible refine LeO.bind ?_ (fun _ => ?_))
      | exact ih0 _ _ _ _ _ _ _ _ _ _ _ _ _
      | exact ih1 _ _ _ _ _ _ _ _ _ _ _ _ _ _
      | exact ih2 _ _ _ _ _ _ _ _ _ _ _
      | exact ih3 _ _ _ _ _ _ _ _ _ _ _ _
      | exact ih4 _ _ _ _ _ _ _ _
      | exact ih5 _ _ _ _ _ _ _ _ _
      | exact ih6 _ _ _ _ _ _
      | exact ih7 _ _ _ _ _ _ _
      | exact ih8 _ _ _ _ _ _ _ _
      | exact half_Carried.mono _ _ _ _
      | exact tesseralaw05_alive.mono _
      | exact tesseranum_SameInts.mono _ _ _
      | exact tesseraref05_Carrier.mono _ _ _ _
      | exact LeO.none _
      | refine LeO.ite ?_ ?_
      | refine LeO.bind ?_ (fun _ => ?_)
    · intro y0 y1 y2 y3 y4 y5 y6 y7 y8 y9 y10 y11
      unfold tesseralaw05_HalfNumbers.j3
      repeat' first
      | (with_reducible exact ih0 _ _ _ _ _ _ _ _ _ _ _ _ _)
      | (with_reducible exact ih1 _ _ _ _ _ _ _ _ _ _ _ _ _ _)
      | (with_reducible exact ih2 _ _ _ _ _ _ _ _ _ _ _)
      | (with_reducible exact ih3 _ _ _ _ _ _ _ _ _ _ _ _)
      | (with_reducible exact ih4 _ _ _ _ _ _ _ _)
      | (with_reducible exact ih5 _ _ _ _ _ _ _ _ _)
      | (with_reducible exact ih6 _ _ _ _ _ _)
      | (with_reducible exact ih7 _ _ _ _ _ _ _)
      | (with_reducible exact ih8 _ _ _ _ _ _ _ _)
      | (with_reducible exact half_Carried.mono _ _ _ _)
      | (with_reducible exact tesseralaw05_alive.mono _)
      | (with_reducible exact tesseranum_SameInts.mono _ _ _)
      | (with_reducible exact tesseraref05_Carrier.mono _ _ _ _)
      | (with_reducible exact LeO.refl _)
      | (with_reducible exact LeO.none _)
      | (with_reducible refine LeO.ite ?_ ?_)
      | (with_reducible refine LeO.bind ?_ (fun _ => ?_))
      | exact ih0 _ _ _ _ _ _ _ _ _ _ _ _ _
      | exact ih1 _ _ _ _ _ _ _ _ _ _ _ _ _ _
      | exact ih2 _ _ _ _ _ _ _ _ _ _ _
      | exact ih3 _ _ _ _ _ _ _ _ _ _ _ _
      | exact ih4 _ _ _ _ _ _ _ _
      | exact ih5 _ _ _ _ _ _ _ _ _
      | exact ih6 _ _ _ _ _ _
      | exact ih7 _ _ _ _ _ _ _
      | exact ih8 _ _ _ _ _ _ _ _
      | exact half_Carried.mono _ _ _ _
      | exact tesseralaw05_alive.mono _
      | exact tesseranum_SameInts.mono _ _ _
      | exact tesseraref05_Carrier.mono _ _ _ _
      | exact LeO.none _
      | refine LeO.ite ?_ ?_
      | refine LeO.bind ?_ (fun _ => ?_)
    · intro y0 y1 y2 y3 y4 y5 y6 y7
      unfold tesseralaw05_HalfNumbers.j4
      repeat' first
      | (with_reducible exact ih0 _ _ _ _ _ _ _ _ _ _ _ _ _)
      | (with_reducible exact ih1 _ _ _ _ _ _ _ _ _ _ _ _ _ _)
      | (with_reducible exact ih2 _ _ _ _ _ _ _ _ _ _ _)
      | (with_reducible exact ih3 _ _ _ _ _ _ _ _ _ _ _ _)
      | (with_reducible exact ih4 _ _ _ _ _ _ _ _)
      | (with_reducible exact ih5 _ _ _ _ _ _ _ _ _)
      | (with_reducible exact ih6 _ _ _ _ _ _)
      | (with_reducible exact ih7 _ _ _ _ _ _ _)
      | (with_reducible exact ih8 _ _ _ _ _ _ _ _)
      | (with_reducible exact half_Carried.mono _ _ _ _)
      | (with_reducible exact tesseralaw05_alive.mono _)
      | (with_reducible exact tesseranum_SameInts.mono _ _ _)
      | (with_reducible exact tesseraref05_Carrier.mono _ _ _ _)
      | (with_reducible exact LeO.refl _)
      | (with_reducible exact LeO.none _)
      | (with_reducible refine LeO.ite ?_ ?_)
      | (with_reducible refine LeO.bind ?_ (fun _ => ?_))
      | exact ih0 _ _ _ _ _ _ _ _ _ _ _ _ _
      | exact ih1 _ _ _ _ _ _ _ _ _ _ _ _ _ _
      | exact ih2 _ _ _ _ _ _ _ _ _ _ _
      | exact ih3 _ _ _ _ _ _ _ _ _ _ _ _
      | exact ih4 _ _ _ _ _ _ _ _
      | exact ih5 _ _ _ _ _ _ _ _ _
      | exact ih6 _ _ _ _ _ _
      | exact ih7 _ _ _ _ _ _ _
      | exact ih8 _ _ _ _ _ _ _ _
      | exact half_Carried.mono _ _ _ _
      | exact tesseralaw05_alive.mono _
      | exact tesseranum_SameInts.mono _ _ _
      | exact tesseraref05_Carrier.mono _ _ _ _
      | exact LeO.none _
      | refine LeO.ite ?_ ?_
      | refine LeO.bind ?_ (fun _ => ?_)
    · intro y0 y1 y2 y3 y4 y5 y6 y7 y8
      unfold tesseralaw05_HalfNumbers.j5
      repeat' first
      | (with_reducible exact ih0 _ _ _ _ _ _ _ _ _ _ _ _ _)
      | (with_reducible exact ih1 _ _ _ _ _ _ _ _ _ _ _ _ _ _)
      | (with_reducible exact ih2 _ _ _ _ _ _ _ _ _ _ _)
      | (with_reducible exact ih3 _ _ _ _ _ _ _ _ _ _ _ _)
      | (with_reducible exact ih4 _ _ _ _ _ _ _ _)
      | (with_reducible exact ih5 _ _ _ _ _ _ _ _ _)
      | (with_reducible exact ih6 _ _ _ _ _ _)
      | (with_reducible exact ih7 _ _ _ _ _ _ _)
      | (with_reducible exact ih8 _ _ _ _ _ _ _ _)
      | (with_reducible exact half_Carried.mono _ _ _ _)
      | (with_reducible exact tesseralaw05_alive.mono _)
      | (with_reducible exact tesseranum_SameInts.mono _ _ _)
      | (with_reducible exact tesseraref05_Carrier.mono _ _ _ _)
      | (with_reducible exact LeO.refl _)
      | (with_reducible exact LeO.none _)
      | (with_reducible refine LeO.ite ?_ ?_)
      | (with_reducible refine LeO.bind ?_ (fun _ => ?_))
      | exact ih0 _ _ _ _ _ _ _ _ _ _ _ _ _
      | exact ih1 _ _ _ _ _ _ _ _ _ _ _ _ _ _
      | exact ih2 _ _ _ _ _ _ _ _ _ _ _
      | exact ih3 _ _ _ _ _ _ _ _ _ _ _ _
      | exact ih4 _ _ _ _ _ _ _ _
      | exact ih5 _ _ _ _ _ _ _ _ _
      | exact ih6 _ _ _ _ _ _
      | exact ih7 _ _ _ _ _ _ _
      | exact ih8 _ _ _ _ _ _ _ _
      | exact half_Carried.mono _ _ _ _
      | exact tesseralaw05_alive.mono _
      | exact tesseranum_SameInts.mono _ _ _
      | exact tesseraref05_Carrier.mono _ _ _ _
      | exact LeO.none _
      | refine LeO.ite ?_ ?_
      | refine LeO.bind ?_ (fun _ => ?_)
    · intro y0 y1 y2 y3 y4 y5
      unfold tesseralaw05_HalfNumbers.j6
      repeat' first
      | (with_reducible exact ih0 _ _ _ _ _ _ _ _ _ _ _ _ _)
      | (with_reducible exact ih1 _ _ _ _ _ _ _ _ _ _ _ _ _ _)
      | (with_reducible exact ih2 _ _ _ _ _ _ _ _ _ _ _)
      | (with_reducible exact ih3 _ _ _ _ _ _ _ _ _ _ _ _)
      | (with_reducible exact ih4 _ _ _ _ _ _ _ _)
      | (with_reducible exact ih5 _ _ _ _ _ _ _ _ _)
      | (with_reducible exact ih6 _ _ _ _ _ _)
      | (with_reducible exact ih7 _ _ _ _ _ _ _)
      | (with_reducible exact ih8 _ _ _ _ _ _ _ _)
      | (with_reducible exact half_Carried.mono _ _ _ _)
      | (with_reducible exact tesseralaw05_alive.mono _)
      | (with_reducible exact tesseranum_SameInts.mono _ _ _)
      | (with_reducible exact tesseraref05_Carrier.mono _ _ _ _)
      | (with_reducible exact LeO.refl _)
      | (with_reducible exact LeO.none _)
      | (with_reducible refine LeO.ite ?_ ?_)
      | (with_reducible refine LeO.bind ?_ (fun _ => ?_))
      | exact ih0 _ _ _ _ _ _ _ _ _ _ _ _ _
      | exact ih1 _ _ _ _ _ _ _ _ _ _ _ _ _ _
      | exact ih2 _ _ _ _ _ _ _ _ _ _ _
      | exact ih3 _ _ _ _ _ _ _ _ _ _ _ _
      | exact ih4 _ _ _ _ _ _ _ _
      | exact ih5 _ _ _ _ _ _ _ _ _
      | exact ih6 _ _ _ _ _ _
      | exact ih7 _ _ _ _ _ _ _
      | exact ih8 _ _ _ _ _ _ _ _
      | exact half_Carried.mono _ _ _ _
      | exact tesseralaw05_alive.mono _
      | exact tesseranum_SameInts.mono _ _ _
      | exact tesseraref05_Carrier.mono _ _ _ _
      | exact LeO.none _
      | refine LeO.ite ?_ ?_
      | refine LeO.bind ?_ (fun _ => ?_)
    · intro y0 y1 y2 y3 y4 y5 y6
      unfold tesseralaw05_HalfNumbers.j7
      repeat' first
      | (with_reducible exact ih0 _ _ _ _ _ _ _ _ _ _ _ _ _)
      | (with_reducible exact ih1 _ _ _ _ _ _ _ _ _ _ _ _ _ _)
      | (with_reducible exact ih2 _ _ _ _ _ _ _ _ _ _ _)
      | (with_reducible exact ih3 _ _ _ _ _ _ _ _ _ _ _ _)
      | (with_reducible exact ih4 _ _ _ _ _ _ _ _)
      | (with_reducible exact ih5 _ _ _ _ _ _ _ _ _)
      | (with_reducible exact ih6 _ _ _ _ _ _)
      | (with_reducible exact ih7 _ _ _ _ _ _ _)
      | (with_reducible exact ih8 _ _ _ _ _ _ _ _)
      | (with_reducible exact half_Carried.mono _ _ _ _)
      | (with_reducible exact tesseralaw05_alive.mono _)
      | (with_reducible exact tesseranum_SameInts.mono _ _ _)
      | (with_reducible exact tesseraref05_Carrier.mono _ _ _ _)
      | (with_reducible exact LeO.refl _)
      | (with_reducible exact LeO.none _)
      | (with_reducible refine LeO.ite ?_ ?_)
      | (with_reducible refine LeO.bind ?_ (fun _ => ?_))
      | exact ih0 _ _ _ _ _ _ _ _ _ _ _ _ _
      | exact ih1 _ _ _ _ _ _ _ _ _ _ _ _ _ _
      | exact ih2 _ _ _ _ _ _ _ _ _ _ _
      | exact ih3 _ _ _ _ _ _ _ _ _ _ _ _
      | exact ih4 _ _ _ _ _ _ _ _
      | exact ih5 _ _ _ _ _ _ _ _ _
      | exact ih6 _ _ _ _ _ _
      | exact ih7 _ _ _ _ _ _ _
      | exact ih8 _ _ _ _ _ _ _ _
      | exact half_Carried.mono _ _ _ _
      | exact tesseralaw05_alive.mono _
      | exact tesseranum_SameInts.mono _ _ _
      | exact tesseraref05_Carrier.mono _ _ _ _
      | exact LeO.none _
      | refine LeO.ite ?_ ?_
      | refine LeO.bind ?_ (fun _ => ?_)
    · intro y0 y1 y2 y3 y4 y5 y6 y7
      unfold tesseralaw05_HalfNumbers.l0
      repeat' first
      | (with_reducible exact ih0 _ _ _ _ _ _ _ _ _ _ _ _ _)
      | (with_reducible exact ih1 _ _ _ _ _ _ _ _ _ _ _ _ _ _)
      | (with_reducible exact ih2 _ _ _ _ _ _ _ _ _ _ _)
      | (with_reducible exact ih3 _ _ _ _ _ _ _ _ _ _ _ _)
      | (with_reducible exact ih4 _ _ _ _ _ _ _ _)
      | (with_reducible exact ih5 _ _ _ _ _ _ _ _ _)
      | (with_reducible exact ih6 _ _ _ _ _ _)
      | (with_reducible exact ih7 _ _ _ _ _ _ _)
      | (with_reducible exact ih8 _ _ _ _ _ _ _ _)
      | (with_reducible exact half_Carried.mono _ _ _ _)
      | (with_reducible exact tesseralaw05_alive.mono _)
      | (with_reducible exact tesseranum_SameInts.mono _ _ _)
      | (with_reducible exact tesseraref05_Carrier.mono _ _ _ _)
      | (with_reducible exact LeO.refl _)
      | (with_reducible exact LeO.none _)
      | (with_reducible refine LeO.ite ?_ ?_)
      | (with_reducible refine LeO.bind ?_ (fun _ => ?_))
      | exact ih0 _ _ _ _ _ _ _ _ _ _ _ _ _
      | exact ih1 _ _ _ _ _ _ _ _ _ _ _ _ _ _
      | exact ih2 _ _ _ _ _ _ _ _ _ _ _
      | exact ih3 _ _ _ _ _ _ _ _ _ _ _ _
      | exact ih4 _ _ _ _ _ _ _ _
      | exact ih5 _ _ _ _ _ _ _ _ _
      | exact ih6 _ _ _ _ _ _
      | exact ih7 _ _ _ _ _ _ _
      | exact ih8 _ _ _ _ _ _ _ _
      | exact half_Carried.mono _ _ _ _
      | exact tesseralaw05_alive.mono _
      | exact tesseranum_SameInts.mono _ _ _
      | exact tesseraref05_Carrier.mono _ _ _ _
      | exact LeO.none _
      | refine LeO.ite ?_ ?_
      | refine LeO.bind ?_ (fun _ => ?_)
theorem tesseralaw05_HalfNumbers.mono : ∀ a0 a1 a2 a3 k, LeO (tesseralaw05_HalfNumbers.f k a0 a1 a2 a3) (tesseralaw05_HalfNumbers.f (k + 1) a0 a1 a2 a3) := by
  intro a0 a1 a2 a3 k
  obtain ⟨ih0, ih1, ih2, ih3, ih4, ih5, ih6, ih7, ih8⟩ := tesseralaw05_HalfNumbers.mono_l k
  unfold tesseralaw05_HalfNumbers.f
  repeat' first
      | (with_reducible exact ih0 _ _ _ _ _ _ _ _ _ _ _ _ _)
      | (with_reducible exact ih1 _ _ _ _ _ _ _ _ _ _ _ _ _ _)
      | (with_reducible exact ih2 _ _ _ _ _ _ _ _ _ _ _)
      | (with_reducible exact ih3 _ _ _ _ _ _ _ _ _ _ _ _)
      | (with_reducible exact ih4 _ _ _ _ _ _ _ _)
      | (with_reducible exact ih5 _ _ _ _ _ _ _ _ _)
      | (with_reducible exact ih6 _ _ _ _ _ _)
      | (with_reducible exact ih7 _ _ _ _ _ _ _)
      | (with_reducible exact ih8 _ _ _ _ _ _ _ _)
      | (with_reducible exact half_Carried.mono _ _ _ _)
      | (with_reducible exact tesseralaw05_alive.mono _)
      | (with_reducible exact tesseranum_SameInts.mono _ _ _)
      | (with_reducible exact tesseraref05_Carrier.mono _ _ _ _)
      | (with_reducible exact LeO.refl _)
      | (with_reducible exact LeO.none _)
      | (with_reducible refine LeO.ite ?_ ?_)
      | (with_reducible refine LeO.bind ?_ (fun _ => ?_))
      | exact ih0 _ _ _ _ _ _ _ _ _ _ _ _ _
      | exact ih1 _ _ _ _ _ _ _ _ _ _ _ _ _ _
      | exact ih2 _ _ _ _ _ _ _ _ _ _ _
      | exact ih3 _ _ _ _ _ _ _ _ _ _ _ _
      | exact ih4 _ _ _ _ _ _ _ _
      | exact ih5 _ _ _ _ _ _ _ _ _
      | exact ih6 _ _ _ _ _ _
      | exact ih7 _ _ _ _ _ _ _
      | exact ih8 _ _ _ _ _ _ _ _
      | exact half_Carried.mono _ _ _ _
      | exact tesseralaw05_alive.mono _
      | exact tesseranum_SameInts.mono _ _ _
      | exact tesseraref05_Carrier.mono _ _ _ _
      | exact LeO.none _
      | refine LeO.ite ?_ ?_
      | refine LeO.bind ?_ (fun _ => ?_)
set_option maxHeartbeats 8000000 in
set_option maxRecDepth 100000 in
theorem tesseralaw05_HalfNumbers.calls (k : Nat) (a0 : Int) (a1 : Int) (a2_0 : Int) (a2_1 : Int) (r : Bool) (w : World) (h : tesseralaw05_HalfNumbers.f k a0 a1 a2_0 a2_1 = some r) (hT : r = true) (hS : Sent tesseralaw05_HalfNumbers.L w) :
  Calls Tryd.prog 6 #[.int .i64 a0, .int .i64 a1, .agg #[.int .i64 a2_0, .int .i64 a2_1]] w fun e w' => e = .returned (.bool r) ∧ Below w.heap.size w w' := by
 have hu51 := Tryd.underlying51
 have hu27 := Tryd.underlying27
 have HB := Aside0.mk (Below.refl w.heap.size w)
 have HT := Aside0.mk hT
 clear hT
 have HS := Aside0.mk hS
 have hgl1 := Sent.cell hS 1 0 rfl (by decide)
 simp only [errW_some] at hgl1
 have hgz1 := fun (W_ : World) (hb_ : SentW w W_) => hgl1 W_ ⟨hb_.below⟩
 have hglw1 := Sent.cell0 hS 1 0 rfl (by decide)
 simp only [errW_some] at hglw1
 have hgl4 := Sent.cell hS 4 1 rfl (by decide)
 simp only [errW_some] at hgl4
 have hgz4 := fun (W_ : World) (hb_ : SentW w W_) => hgl4 W_ ⟨hb_.below⟩
 have hglw4 := Sent.cell0 hS 4 1 rfl (by decide)
 simp only [errW_some] at hglw4
 have hgl12 := Sent.cell hS 12 2 rfl (by decide)
 simp only [errW_some] at hgl12
 have hgz12 := fun (W_ : World) (hb_ : SentW w W_) => hgl12 W_ ⟨hb_.below⟩
 have hglw12 := Sent.cell0 hS 12 2 rfl (by decide)
 simp only [errW_some] at hglw12
 clear hS
 have H : ((tesseralaw05_alive.f k).bind fun t204 => (if t204 = true then ((half_Of.f a0 a1 a2_0 a2_1).bind fun bt205 => ((half_Split.f a0 a1 a2_0).bind fun bt207 => ((half_Carrier.f a0 a1 a2_0).bind fun bt210 => ((half_Carried.f k a0 a1 a2_0).bind fun bt212 => ((tesseraref04_Legal.f a0 a1).bind fun t216 => (if t216 = true then (tesseralaw05_HalfNumbers.j0 k a0 a1 bt205.1 bt205.2 bt207.1 bt207.2.1 bt207.2.2 bt210.1 bt210.2 bt212.1 bt212.2 a2_0 a2_1) else (if (errOk tesseralaw05_HalfNumbers.L bt205.2) = true then (if (errEq bt205.2 1) = true then (if (errOk tesseralaw05_HalfNumbers.L bt207.2.2) = true then (if (errEq bt207.2.2 1) = true then (if (errOk tesseralaw05_HalfNumbers.L bt210.2) = true then (if (errEq bt210.2 1) = true then (if (errOk tesseralaw05_HalfNumbers.L bt212.2) = true then (if (errEq bt212.2 1) = true then (if bt205.1 = 0 then (if bt207.1 = 0 then (if bt207.2.1 = 0 then (if bt210.1 = 0 then (some ((bt212.1.length : Int) == 0)) else (some false)) else (some false)) else (some false)) else (some false)) else (some false)) else (none)) else (some false)) else (none)) else (some false)) else (none)) else (some false)) else (none)))))))) else (some false))) = some r := h
 clear h
 replace H := Option.bind_eq_some_iff.mp H
 obtain ⟨t204, A40, H⟩ := H
 replace H : (if t204 = true then ((half_Of.f a0 a1 a2_0 a2_1).bind fun bt205 => ((half_Split.f a0 a1 a2_0).bind fun bt207 => ((half_Carrier.f a0 a1 a2_0).bind fun bt210 => ((half_Carried.f k a0 a1 a2_0).bind fun bt212 => ((tesseraref04_Legal.f a0 a1).bind fun t216 => (if t216 = true then (tesseralaw05_HalfNumbers.j0 k a0 a1 bt205.1 bt205.2 bt207.1 bt207.2.1 bt207.2.2 bt210.1 bt210.2 bt212.1 bt212.2 a2_0 a2_1) else (if (errOk tesseralaw05_HalfNumbers.L bt205.2) = true then (if (errEq bt205.2 1) = true then (if (errOk tesseralaw05_HalfNumbers.L bt207.2.2) = true then (if (errEq bt207.2.2 1) = true then (if (errOk tesseralaw05_HalfNumbers.L bt210.2) = true then (if (errEq bt210.2 1) = true then (if (errOk tesseralaw05_HalfNumbers.L bt212.2) = true then (if (errEq bt212.2 1) = true then (if bt205.1 = 0 then (if bt207.1 = 0 then (if bt207.2.1 = 0 then (if bt210.1 = 0 then (some ((bt212.1.length : Int) == 0)) else (some false)) else (some false)) else (some false)) else (some false)) else (some false)) else (none)) else (some false)) else (none)) else (some false)) else (none)) else (some false)) else (none)))))))) else (some false)) = some r := H
 have A4 := Aside0.mk A40
 clear A40
 by_cases c5 : t204 = true
 ·subst c5
  have H1 : ((half_Of.f a0 a1 a2_0 a2_1).bind fun bt205 => ((half_Split.f a0 a1 a2_0).bind fun bt207 => ((half_Carrier.f a0 a1 a2_0).bind fun bt210 => ((half_Carried.f k a0 a1 a2_0).bind fun bt212 => ((tesseraref04_Legal.f a0 a1).bind fun t216 => (if t216 = true then (tesseralaw05_HalfNumbers.j0 k a0 a1 bt205.1 bt205.2 bt207.1 bt207.2.1 bt207.2.2 bt210.1 bt210.2 bt212.1 bt212.2 a2_0 a2_1) else (if (errOk tesseralaw05_HalfNumbers.L bt205.2) = true then (if (errEq bt205.2 1) = true then (if (errOk tesseralaw05_HalfNumbers.L bt207.2.2) = true then (if (errEq bt207.2.2 1) = true then (if (errOk tesseralaw05_HalfNumbers.L bt210.2) = true then (if (errEq bt210.2 1) = true then (if (errOk tesseralaw05_HalfNumbers.L bt212.2) = true then (if (errEq bt212.2 1) = true then (if bt205.1 = 0 then (if bt207.1 = 0 then (if bt207.2.1 = 0 then (if bt210.1 = 0 then (some ((bt212.1.length : Int) == 0)) else (some false)) else (some false)) else (some false)) else (some false)) else (some false)) else (none)) else (some false)) else (none)) else (some false)) else (none)) else (some false)) else (none)))))))) = some r := by rw [if_pos rfl] at H; exact H
  clear H
  have H := H1
  clear H1
  replace H := Option.bind_eq_some_iff.mp H
  obtain ⟨⟨t205, t206⟩, A60, H⟩ := H
  replace H : ((half_Split.f a0 a1 a2_0).bind fun bt207 => ((half_Carrier.f a0 a1 a2_0).bind fun bt210 => ((half_Carried.f k a0 a1 a2_0).bind fun bt212 => ((tesseraref04_Legal.f a0 a1).bind fun t216 => (if t216 = true then (tesseralaw05_HalfNumbers.j0 k a0 a1 t205 t206 bt207.1 bt207.2.1 bt207.2.2 bt210.1 bt210.2 bt212.1 bt212.2 a2_0 a2_1) else (if (errOk tesseralaw05_HalfNumbers.L t206) = true then (if (errEq t206 1) = true then (if (errOk tesseralaw05_HalfNumbers.L bt207.2.2) = true then (if (errEq bt207.2.2 1) = true then (if (errOk tesseralaw05_HalfNumbers.L bt210.2) = true then (if (errEq bt210.2 1) = true then (if (errOk tesseralaw05_HalfNumbers.L bt212.2) = true then (if (errEq bt212.2 1) = true then (if t205 = 0 then (if bt207.1 = 0 then (if bt207.2.1 = 0 then (if bt210.1 = 0 then (some ((bt212.1.length : Int) == 0)) else (some false)) else (some false)) else (some false)) else (some false)) else (some false)) else (none)) else (some false)) else (none)) else (some false)) else (none)) else (some false)) else (none))))))) = some r := H
  have A6 := Aside0.mk A60
  clear A60
  replace H := Option.bind_eq_some_iff.mp H
  obtain ⟨⟨t207, t208, t209⟩, A70, H⟩ := H
  replace H : ((half_Carrier.f a0 a1 a2_0).bind fun bt210 => ((half_Carried.f k a0 a1 a2_0).bind fun bt212 => ((tesseraref04_Legal.f a0 a1).bind fun t216 => (if t216 = true then (tesseralaw05_HalfNumbers.j0 k a0 a1 t205 t206 t207 t208 t209 bt210.1 bt210.2 bt212.1 bt212.2 a2_0 a2_1) else (if (errOk tesseralaw05_HalfNumbers.L t206) = true then (if (errEq t206 1) = true then (if (errOk tesseralaw05_HalfNumbers.L t209) = true then (if (errEq t209 1) = true then (if (errOk tesseralaw05_HalfNumbers.L bt210.2) = true then (if (errEq bt210.2 1) = true then (if (errOk tesseralaw05_HalfNumbers.L bt212.2) = true then (if (errEq bt212.2 1) = true then (if t205 = 0 then (if t207 = 0 then (if t208 = 0 then (if bt210.1 = 0 then (some ((bt212.1.length : Int) == 0)) else (some false)) else (some false)) else (some false)) else (some false)) else (some false)) else (none)) else (some false)) else (none)) else (some false)) else (none)) else (some false)) else (none)))))) = some r := H
  have A7 := Aside0.mk A70
  clear A70
  replace H := Option.bind_eq_some_iff.mp H
  obtain ⟨⟨t210, t211⟩, A80, H⟩ := H
  replace H : ((half_Carried.f k a0 a1 a2_0).bind fun bt212 => ((tesseraref04_Legal.f a0 a1).bind fun t216 => (if t216 = true then (tesseralaw05_HalfNumbers.j0 k a0 a1 t205 t206 t207 t208 t209 t210 t211 bt212.1 bt212.2 a2_0 a2_1) else (if (errOk tesseralaw05_HalfNumbers.L t206) = true then (if (errEq t206 1) = true then (if (errOk tesseralaw05_HalfNumbers.L t209) = true then (if (errEq t209 1) = true then (if (errOk tesseralaw05_HalfNumbers.L t211) = true then (if (errEq t211 1) = true then (if (errOk tesseralaw05_HalfNumbers.L bt212.2) = true then (if (errEq bt212.2 1) = true then (if t205 = 0 then (if t207 = 0 then (if t208 = 0 then (if t210 = 0 then (some ((bt212.1.length : Int) == 0)) else (some false)) else (some false)) else (some false)) else (some false)) else (some false)) else (none)) else (some false)) else (none)) else (some false)) else (none)) else (some false)) else (none))))) = some r := H
  have A8 := Aside0.mk A80
  clear A80
  replace H := Option.bind_eq_some_iff.mp H
  obtain ⟨⟨t212, t213⟩, A90, H⟩ := H
  replace H : ((tesseraref04_Legal.f a0 a1).bind fun t216 => (if t216 = true then (tesseralaw05_HalfNumbers.j0 k a0 a1 t205 t206 t207 t208 t209 t210 t211 t212 t213 a2_0 a2_1) else (if (errOk tesseralaw05_HalfNumbers.L t206) = true then (if (errEq t206 1) = true then (if (errOk tesseralaw05_HalfNumbers.L t209) = true then (if (errEq t209 1) = true then (if (errOk tesseralaw05_HalfNumbers.L t211) = true then (if (errEq t211 1) = true then (if (errOk tesseralaw05_HalfNumbers.L t213) = true then (if (errEq t213 1) = true then (if t205 = 0 then (if t207 = 0 then (if t208 = 0 then (if t210 = 0 then (some ((t212.length : Int) == 0)) else (some false)) else (some false)) else (some false)) else (some false)) else (some false)) else (none)) else (some false)) else (none)) else (some false)) else (none)) else (some false)) else (none)))) = some r := H
  have A9 := Aside0.mk A90
  clear A90
  replace H := Option.bind_eq_some_iff.mp H
  obtain ⟨t216, A100, H⟩ := H
  replace H : (if t216 = true then (tesseralaw05_HalfNumbers.j0 k a0 a1 t205 t206 t207 t208 t209 t210 t211 t212 t213 a2_0 a2_1) else (if (errOk tesseralaw05_HalfNumbers.L t206) = true then (if (errEq t206 1) = true then (if (errOk tesseralaw05_HalfNumbers.L t209) = true then (if (errEq t209 1) = true then (if (errOk tesseralaw05_HalfNumbers.L t211) = true then (if (errEq t211 1) = true then (if (errOk tesseralaw05_HalfNumbers.L t213) = true then (if (errEq t213 1) = true then (if t205 = 0 then (if t207 = 0 then (if t208 = 0 then (if t210 = 0 then (some ((t212.length : Int) == 0)) else (some false)) else (some false)) else (some false)) else (some false)) else (some false)) else (none)) else (some false)) else (none)) else (some false)) else (none)) else (some false)) else (none))) = some r := H
  have A10 := Aside0.mk A100
  clear A100
  have HC11 := Aside0.mk H
  clear H
  go_enter Tryd.func6, Tryd.ntmps6
  go_upto_if 58 with (first | ((with_reducible refine gate_dst (N := 5) rfl ?_); (try (refine gate_guard (by rfl) ?_; dsimp only)); refine box_event ?hg (N := 5) ?hd (cs := #[.int .i64 a2_0, .int .i64 a2_1]) (t := 51) ?hr ?_; (case hd => rfl); (case hg => rfl); (case hr => first | (go_simp; done) | (go_simp; rfl)); intro gb203 hg w12 hbox hb; have n0_ := Aside0.mk (below_step (by repeat (first | (with_reducible first | exact HB.out | apply below_alloc | apply pw_below_drewN | apply below_drew1) | exact HB.out)) hb); have n1_ := Aside0.mk (hbox); have n2_ := Aside0.mk ((by rw [hg]; exact (below_size (by repeat (first | (with_reducible first | exact HB.out | apply below_alloc | apply pw_below_drewN | apply below_drew1) | exact HB.out))) : w.heap.size ≤ gb203)); have n3_ := Aside0.mk ((by rw [hg]; exact (below_size (by repeat (first | (with_reducible first | exact HB.out | apply below_alloc | apply pw_below_drewN | apply below_drew1) | exact HB.out))) : w.heap.size ≤ gb203)); clear HB; have HB := n0_; have BK203 := n1_; have GW203 := n2_; have GE203 := n3_; clear n0_ n1_ n2_ n3_; clear hb hbox hg) | (go_at_call 10; (with_reducible refine (tesseralaw05_alive.calls k  true _ A4.out (Sent.sub (show ∀ c, c ∈ tesseralaw05_alive.L → c ∈ tesseralaw05_HalfNumbers.L by decide) (Sent.below HS.out (by repeat (first | (with_reducible first | exact HB.out | apply below_alloc | apply pw_below_drewN | apply below_drew1 | refine below_set ?_ GE203.out) | exact HB.out))))).mono ?_); rintro e w13 ⟨rfl, hb⟩; have n0_ := Aside0.mk (blk_below (g := gb203) (o := .cells #[.int .i64 a2_0, .int .i64 a2_1] 51 (0, 0)) (by (with_reducible repeat (first | refine blk_drewN ?_ _ | refine blk_drew ?_ | refine blk_alloc ?_ _)); exact BK203.out) hb); have n1_ := Aside0.mk (below_step (by repeat (first | (with_reducible first | exact HB.out | apply below_alloc | apply pw_below_drewN | apply below_drew1 | refine below_set ?_ GE203.out) | exact HB.out)) hb); clear BK203; clear HB; have BK203 := n0_; have HB := n1_; clear n0_ n1_; (try clear hb); (try clear hb2); (try clear hk); (try clear hi); have hcz14_0 : w13.cell? ⟨gb203, 0, none⟩ = some (.int .i64 a2_0) := (blk_cell BK203.out 0).trans rfl; have hcz14_1 : w13.cell? ⟨gb203, 1, none⟩ = some (.int .i64 a2_1) := (blk_cell BK203.out 1).trans rfl; have hfz14_0 := blk_frozen BK203.out 0; have hfz14_1 := blk_frozen BK203.out 1) | (go_at_call 24; (with_reducible refine (half_Of.calls a0 a1 a2_0 a2_1 t205 t206 _ A6.out (Sent.sub (show ∀ c, c ∈ half_Of.L → c ∈ tesseralaw05_HalfNumbers.L by decide) (Sent.below HS.out (by repeat (first | (with_reducible first | exact HB.out | apply below_alloc | apply pw_below_drewN | apply below_drew1 | refine below_set ?_ GE203.out) | exact HB.out))))).mono ?_); rintro e w15 ⟨rfl, hb⟩; have n0_ := Aside0.mk (blk_below (g := gb203) (o := .cells #[.int .i64 a2_0, .int .i64 a2_1] 51 (0, 0)) (by (with_reducible repeat (first | refine blk_drewN ?_ _ | refine blk_drew ?_ | refine blk_alloc ?_ _)); exact BK203.out) hb); have n1_ := Aside0.mk (below_step (by repeat (first | (with_reducible first | exact HB.out | apply below_alloc | apply pw_below_drewN | apply below_drew1 | refine below_set ?_ GE203.out) | exact HB.out)) hb); clear BK203; clear HB; have BK203 := n0_; have HB := n1_; clear n0_ n1_; (try clear hb); (try clear hb2); (try clear hk); (try clear hi); (try simp only [errW_none, errW_some]); have hcz16_0 : w15.cell? ⟨gb203, 0, none⟩ = some (.int .i64 a2_0) := (blk_cell BK203.out 0).trans rfl; have hcz16_1 : w15.cell? ⟨gb203, 1, none⟩ = some (.int .i64 a2_1) := (blk_cell BK203.out 1).trans rfl; have hfz16_0 := blk_frozen BK203.out 0; have hfz16_1 := blk_frozen BK203.out 1) | (go_at_call 25; (with_reducible refine (half_Split.calls a0 a1 a2_0 t207 t208 t209 _ A7.out (Sent.sub (show ∀ c, c ∈ half_Split.L → c ∈ tesseralaw05_HalfNumbers.L by decide) (Sent.below HS.out (by repeat (first | (with_reducible first | exact HB.out | apply below_alloc | apply pw_below_drewN | apply below_drew1 | refine below_set ?_ GE203.out) | exact HB.out))))).mono ?_); rintro e w17 ⟨rfl, hb⟩; have n0_ := Aside0.mk (blk_below (g := gb203) (o := .cells #[.int .i64 a2_0, .int .i64 a2_1] 51 (0, 0)) (by (with_reducible repeat (first | refine blk_drewN ?_ _ | refine blk_drew ?_ | refine blk_alloc ?_ _)); exact BK203.out) hb); have n1_ := Aside0.mk (below_step (by repeat (first | (with_reducible first | exact HB.out | apply below_alloc | apply pw_below_drewN | apply below_drew1 | refine below_set ?_ GE203.out) | exact HB.out)) hb); clear BK203; clear HB; have BK203 := n0_; have HB := n1_; clear n0_ n1_; (try clear hb); (try clear hb2); (try clear hk); (try clear hi); (try simp only [errW_none, errW_some]); have hcz18_0 : w17.cell? ⟨gb203, 0, none⟩ = some (.int .i64 a2_0) := (blk_cell BK203.out 0).trans rfl; have hcz18_1 : w17.cell? ⟨gb203, 1, none⟩ = some (.int .i64 a2_1) := (blk_cell BK203.out 1).trans rfl; have hfz18_0 := blk_frozen BK203.out 0; have hfz18_1 := blk_frozen BK203.out 1) | (go_at_call 14; (with_reducible refine (half_Carrier.calls a0 a1 a2_0 t210 t211 _ A8.out (Sent.sub (show ∀ c, c ∈ half_Carrier.L → c ∈ tesseralaw05_HalfNumbers.L by decide) (Sent.below HS.out (by repeat (first | (with_reducible first | exact HB.out | apply below_alloc | apply pw_below_drewN | apply below_drew1 | refine below_set ?_ GE203.out) | exact HB.out))))).mono ?_); rintro e w' ⟨rfl, ⟨nd, rfl⟩⟩; (try simp only [errW_none, errW_some]); (try first | exact ⟨rfl, _, World.drewN_drewN _ _ _⟩ | exact ⟨rfl, _, Eq.trans (World.drewN_drewN _ _ _) (congrArg (World.drewN _) (Nat.add_assoc _ _ _))⟩)) | (go_at_call 13; (with_reducible refine (half_Carried.calls k a0 a1 a2_0 t212 t213 _ A9.out (Sent.sub (show ∀ c, c ∈ half_Carried.L → c ∈ tesseralaw05_HalfNumbers.L by decide) (Sent.below HS.out (by repeat (first | (with_reducible first | exact HB.out | apply below_alloc | apply pw_below_drewN | apply below_drew1 | refine below_set ?_ GE203.out) | exact HB.out))))).mono ?_); rintro e w19 ⟨v214, rfl, ho0, hb⟩; have n0_ := Aside0.mk (Kd.R_lower ho0 (below_size (by repeat (first | (with_reducible first | exact HB.out | apply below_alloc | apply pw_below_drewN | apply below_drew1 | refine below_set ?_ GE203.out) | exact HB.out)))); have n1_ := Aside0.mk (blk_below (g := gb203) (o := .cells #[.int .i64 a2_0, .int .i64 a2_1] 51 (0, 0)) (by (with_reducible repeat (first | refine blk_drewN ?_ _ | refine blk_drew ?_ | refine blk_alloc ?_ _)); exact BK203.out) hb); have n2_ := Aside0.mk (below_step (by repeat (first | (with_reducible first | exact HB.out | apply below_alloc | apply pw_below_drewN | apply below_drew1 | refine below_set ?_ GE203.out) | exact HB.out)) hb); clear BK203; clear HB; have HO215 := n0_; have BK203 := n1_; have HB := n2_; clear n0_ n1_ n2_; (try clear hb); (try clear hb2); (try clear hk); (try clear hi); (try clear ho0); (try simp only [errW_none, errW_some])) | (go_at_call 11; (with_reducible refine (tesseraref04_Legal.calls a0 a1 t216 _ A10.out).mono ?_); rintro e w' ⟨rfl, ⟨nd, rfl⟩⟩; (try first | exact ⟨rfl, _, World.drewN_drewN _ _ _⟩ | exact ⟨rfl, _, Eq.trans (World.drewN_drewN _ _ _) (congrArg (World.drewN _) (Nat.add_assoc _ _ _))⟩)))
  repeat (go_quiet (first | ((with_reducible refine gate_dst (N := 5) rfl ?_); (try (refine gate_guard (by rfl) ?_; dsimp only)); refine box_event ?hg (N := 5) ?hd (cs := #[.int .i64 a2_0, .int .i64 a2_1]) (t := 51) ?hr ?_; (case hd => rfl); (case hg => rfl); (case hr => first | (go_simp; done) | (go_simp; rfl)); intro gb203 hg w12 hbox hb; have n0_ := Aside0.mk (below_step (by repeat (first | (with_reducible first | exact HB.out | apply below_alloc | apply pw_below_drewN | apply below_drew1) | exact HB.out)) hb); have n1_ := Aside0.mk (hbox); have n2_ := Aside0.mk ((by rw [hg]; exact (below_size (by repeat (first | (with_reducible first | exact HB.out | apply below_alloc | apply pw_below_drewN | apply below_drew1) | exact HB.out))) : w.heap.size ≤ gb203)); have n3_ := Aside0.mk ((by rw [hg]; exact (below_size (by repeat (first | (with_reducible first | exact HB.out | apply below_alloc | apply pw_below_drewN | apply below_drew1) | exact HB.out))) : w.heap.size ≤ gb203)); clear HB; have HB := n0_; have BK203 := n1_; have GW203 := n2_; have GE203 := n3_; clear n0_ n1_ n2_ n3_; clear hb hbox hg) | (go_at_call 10; (with_reducible refine (tesseralaw05_alive.calls k  true _ A4.out (Sent.sub (show ∀ c, c ∈ tesseralaw05_alive.L → c ∈ tesseralaw05_HalfNumbers.L by decide) (Sent.below HS.out (by repeat (first | (with_reducible first | exact HB.out | apply below_alloc | apply pw_below_drewN | apply below_drew1 | refine below_set ?_ GE203.out) | exact HB.out))))).mono ?_); rintro e w13 ⟨rfl, hb⟩; have n0_ := Aside0.mk (blk_below (g := gb203) (o := .cells #[.int .i64 a2_0, .int .i64 a2_1] 51 (0, 0)) (by (with_reducible repeat (first | refine blk_drewN ?_ _ | refine blk_drew ?_ | refine blk_alloc ?_ _)); exact BK203.out) hb); have n1_ := Aside0.mk (below_step (by repeat (first | (with_reducible first | exact HB.out | apply below_alloc | apply pw_below_drewN | apply below_drew1 | refine below_set ?_ GE203.out) | exact HB.out)) hb); clear BK203; clear HB; have BK203 := n0_; have HB := n1_; clear n0_ n1_; (try clear hb); (try clear hb2); (try clear hk); (try clear hi); have hcz14_0 : w13.cell? ⟨gb203, 0, none⟩ = some (.int .i64 a2_0) := (blk_cell BK203.out 0).trans rfl; have hcz14_1 : w13.cell? ⟨gb203, 1, none⟩ = some (.int .i64 a2_1) := (blk_cell BK203.out 1).trans rfl; have hfz14_0 := blk_frozen BK203.out 0; have hfz14_1 := blk_frozen BK203.out 1) | (go_at_call 24; (with_reducible refine (half_Of.calls a0 a1 a2_0 a2_1 t205 t206 _ A6.out (Sent.sub (show ∀ c, c ∈ half_Of.L → c ∈ tesseralaw05_HalfNumbers.L by decide) (Sent.below HS.out (by repeat (first | (with_reducible first | exact HB.out | apply below_alloc | apply pw_below_drewN | apply below_drew1 | refine below_set ?_ GE203.out) | exact HB.out))))).mono ?_); rintro e w15 ⟨rfl, hb⟩; have n0_ := Aside0.mk (blk_below (g := gb203) (o := .cells #[.int .i64 a2_0, .int .i64 a2_1] 51 (0, 0)) (by (with_reducible repeat (first | refine blk_drewN ?_ _ | refine blk_drew ?_ | refine blk_alloc ?_ _)); exact BK203.out) hb); have n1_ := Aside0.mk (below_step (by repeat (first | (with_reducible first | exact HB.out | apply below_alloc | apply pw_below_drewN | apply below_drew1 | refine below_set ?_ GE203.out) | exact HB.out)) hb); clear BK203; clear HB; have BK203 := n0_; have HB := n1_; clear n0_ n1_; (try clear hb); (try clear hb2); (try clear hk); (try clear hi); (try simp only [errW_none, errW_some]); have hcz16_0 : w15.cell? ⟨gb203, 0, none⟩ = some (.int .i64 a2_0) := (blk_cell BK203.out 0).trans rfl; have hcz16_1 : w15.cell? ⟨gb203, 1, none⟩ = some (.int .i64 a2_1) := (blk_cell BK203.out 1).trans rfl; have hfz16_0 := blk_frozen BK203.out 0; have hfz16_1 := blk_frozen BK203.out 1) | (go_at_call 25; (with_reducible refine (half_Split.calls a0 a1 a2_0 t207 t208 t209 _ A7.out (Sent.sub (show ∀ c, c ∈ half_Split.L → c ∈ tesseralaw05_HalfNumbers.L by decide) (Sent.below HS.out (by repeat (first | (with_reducible first | exact HB.out | apply below_alloc | apply pw_below_drewN | apply below_drew1 | refine below_set ?_ GE203.out) | exact HB.out))))).mono ?_); rintro e w17 ⟨rfl, hb⟩; have n0_ := Aside0.mk (blk_below (g := gb203) (o := .cells #[.int .i64 a2_0, .int .i64 a2_1] 51 (0, 0)) (by (with_reducible repeat (first | refine blk_drewN ?_ _ | refine blk_drew ?_ | refine blk_alloc ?_ _)); exact BK203.out) hb); have n1_ := Aside0.mk (below_step (by repeat (first | (with_reducible first | exact HB.out | apply below_alloc | apply pw_below_drewN | apply below_drew1 | refine below_set ?_ GE203.out) | exact HB.out)) hb); clear BK203; clear HB; have BK203 := n0_; have HB := n1_; clear n0_ n1_; (try clear hb); (try clear hb2); (try clear hk); (try clear hi); (try simp only [errW_none, errW_some]); have hcz18_0 : w17.cell? ⟨gb203, 0, none⟩ = some (.int .i64 a2_0) := (blk_cell BK203.out 0).trans rfl; have hcz18_1 : w17.cell? ⟨gb203, 1, none⟩ = some (.int .i64 a2_1) := (blk_cell BK203.out 1).trans rfl; have hfz18_0 := blk_frozen BK203.out 0; have hfz18_1 := blk_frozen BK203.out 1) | (go_at_call 14; (with_reducible refine (half_Carrier.calls a0 a1 a2_0 t210 t211 _ A8.out (Sent.sub (show ∀ c, c ∈ half_Carrier.L → c ∈ tesseralaw05_HalfNumbers.L by decide) (Sent.below HS.out (by repeat (first | (with_reducible first | exact HB.out | apply below_alloc | apply pw_below_drewN | apply below_drew1 | refine below_set ?_ GE203.out) | exact HB.out))))).mono ?_); rintro e w' ⟨rfl, ⟨nd, rfl⟩⟩; (try simp only [errW_none, errW_some]); (try first | exact ⟨rfl, _, World.drewN_drewN _ _ _⟩ | exact ⟨rfl, _, Eq.trans (World.drewN_drewN _ _ _) (congrArg (World.drewN _) (Nat.add_assoc _ _ _))⟩)) | (go_at_call 13; (with_reducible refine (half_Carried.calls k a0 a1 a2_0 t212 t213 _ A9.out (Sent.sub (show ∀ c, c ∈ half_Carried.L → c ∈ tesseralaw05_HalfNumbers.L by decide) (Sent.below HS.out (by repeat (first | (with_reducible first | exact HB.out | apply below_alloc | apply pw_below_drewN | apply below_drew1 | refine below_set ?_ GE203.out) | exact HB.out))))).mono ?_); rintro e w19 ⟨v214, rfl, ho0, hb⟩; have n0_ := Aside0.mk (Kd.R_lower ho0 (below_size (by repeat (first | (with_reducible first | exact HB.out | apply below_alloc | apply pw_below_drewN | apply below_drew1 | refine below_set ?_ GE203.out) | exact HB.out)))); have n1_ := Aside0.mk (blk_below (g := gb203) (o := .cells #[.int .i64 a2_0, .int .i64 a2_1] 51 (0, 0)) (by (with_reducible repeat (first | refine blk_drewN ?_ _ | refine blk_drew ?_ | refine blk_alloc ?_ _)); exact BK203.out) hb); have n2_ := Aside0.mk (below_step (by repeat (first | (with_reducible first | exact HB.out | apply below_alloc | apply pw_below_drewN | apply below_drew1 | refine below_set ?_ GE203.out) | exact HB.out)) hb); clear BK203; clear HB; have HO215 := n0_; have BK203 := n1_; have HB := n2_; clear n0_ n1_ n2_; (try clear hb); (try clear hb2); (try clear hk); (try clear hi); (try clear ho0); (try simp only [errW_none, errW_some])) | (go_at_call 11; (with_reducible refine (tesseraref04_Legal.calls a0 a1 t216 _ A10.out).mono ?_); rintro e w' ⟨rfl, ⟨nd, rfl⟩⟩; (try first | exact ⟨rfl, _, World.drewN_drewN _ _ _⟩ | exact ⟨rfl, _, Eq.trans (World.drewN_drewN _ _ _) (congrArg (World.drewN _) (Nat.add_assoc _ _ _))⟩))); go_upto_if 58 with (first | ((with_reducible refine gate_dst (N := 5) rfl ?_); (try (refine gate_guard (by rfl) ?_; dsimp only)); refine box_event ?hg (N := 5) ?hd (cs := #[.int .i64 a2_0, .int .i64 a2_1]) (t := 51) ?hr ?_; (case hd => rfl); (case hg => rfl); (case hr => first | (go_simp; done) | (go_simp; rfl)); intro gb203 hg w12 hbox hb; have n0_ := Aside0.mk (below_step (by repeat (first | (with_reducible first | exact HB.out | apply below_alloc | apply pw_below_drewN | apply below_drew1) | exact HB.out)) hb); have n1_ := Aside0.mk (hbox); have n2_ := Aside0.mk ((by rw [hg]; exact (below_size (by repeat (first | (with_reducible first | exact HB.out | apply below_alloc | apply pw_below_drewN | apply below_drew1) | exact HB.out))) : w.heap.size ≤ gb203)); have n3_ := Aside0.mk ((by rw [hg]; exact (below_size (by repeat (first | (with_reducible first | exact HB.out | apply below_alloc | apply pw_below_drewN | apply below_drew1) | exact HB.out))) : w.heap.size ≤ gb203)); clear HB; have HB := n0_; have BK203 := n1_; have GW203 := n2_; have GE203 := n3_; clear n0_ n1_ n2_ n3_; clear hb hbox hg) | (go_at_call 10; (with_reducible refine (tesseralaw05_alive.calls k  true _ A4.out (Sent.sub (show ∀ c, c ∈ tesseralaw05_alive.L → c ∈ tesseralaw05_HalfNumbers.L by decide) (Sent.below HS.out (by repeat (first | (with_reducible first | exact HB.out | apply below_alloc | apply pw_below_drewN | apply below_drew1 | refine below_set ?_ GE203.out) | exact HB.out))))).mono ?_); rintro e w13 ⟨rfl, hb⟩; have n0_ := Aside0.mk (blk_below (g := gb203) (o := .cells #[.int .i64 a2_0, .int .i64 a2_1] 51 (0, 0)) (by (with_reducible repeat (first | refine blk_drewN ?_ _ | refine blk_drew ?_ | refine blk_alloc ?_ _)); exact BK203.out) hb); have n1_ := Aside0.mk (below_step (by repeat (first | (with_reducible first | exact HB.out | apply below_alloc | apply pw_below_drewN | apply below_drew1 | refine below_set ?_ GE203.out) | exact HB.out)) hb); clear BK203; clear HB; have BK203 := n0_; have HB := n1_; clear n0_ n1_; (try clear hb); (try clear hb2); (try clear hk); (try clear hi); have hcz14_0 : w13.cell? ⟨gb203, 0, none⟩ = some (.int .i64 a2_0) := (blk_cell BK203.out 0).trans rfl; have hcz14_1 : w13.cell? ⟨gb203, 1, none⟩ = some (.int .i64 a2_1) := (blk_cell BK203.out 1).trans rfl; have hfz14_0 := blk_frozen BK203.out 0; have hfz14_1 := blk_frozen BK203.out 1) | (go_at_call 24; (with_reducible refine (half_Of.calls a0 a1 a2_0 a2_1 t205 t206 _ A6.out (Sent.sub (show ∀ c, c ∈ half_Of.L → c ∈ tesseralaw05_HalfNumbers.L by decide) (Sent.below HS.out (by repeat (first | (with_reducible first | exact HB.out | apply below_alloc | apply pw_below_drewN | apply below_drew1 | refine below_set ?_ GE203.out) | exact HB.out))))).mono ?_); rintro e w15 ⟨rfl, hb⟩; have n0_ := Aside0.mk (blk_below (g := gb203) (o := .cells #[.int .i64 a2_0, .int .i64 a2_1] 51 (0, 0)) (by (with_reducible repeat (first | refine blk_drewN ?_ _ | refine blk_drew ?_ | refine blk_alloc ?_ _)); exact BK203.out) hb); have n1_ := Aside0.mk (below_step (by repeat (first | (with_reducible first | exact HB.out | apply below_alloc | apply pw_below_drewN | apply below_drew1 | refine below_set ?_ GE203.out) | exact HB.out)) hb); clear BK203; clear HB; have BK203 := n0_; have HB := n1_; clear n0_ n1_; (try clear hb); (try clear hb2); (try clear hk); (try clear hi); (try simp only [errW_none, errW_some]); have hcz16_0 : w15.cell? ⟨gb203, 0, none⟩ = some (.int .i64 a2_0) := (blk_cell BK203.out 0).trans rfl; have hcz16_1 : w15.cell? ⟨gb203, 1, none⟩ = some (.int .i64 a2_1) := (blk_cell BK203.out 1).trans rfl; have hfz16_0 := blk_frozen BK203.out 0; have hfz16_1 := blk_frozen BK203.out 1) | (go_at_call 25; (with_reducible refine (half_Split.calls a0 a1 a2_0 t207 t208 t209 _ A7.out (Sent.sub (show ∀ c, c ∈ half_Split.L → c ∈ tesseralaw05_HalfNumbers.L by decide) (Sent.below HS.out (by repeat (first | (with_reducible first | exact HB.out | apply below_alloc | apply pw_below_drewN | apply below_drew1 | refine below_set ?_ GE203.out) | exact HB.out))))).mono ?_); rintro e w17 ⟨rfl, hb⟩; have n0_ := Aside0.mk (blk_below (g := gb203) (o := .cells #[.int .i64 a2_0, .int .i64 a2_1] 51 (0, 0)) (by (with_reducible repeat (first | refine blk_drewN ?_ _ | refine blk_drew ?_ | refine blk_alloc ?_ _)); exact BK203.out) hb); have n1_ := Aside0.mk (below_step (by repeat (first | (with_reducible first | exact HB.out | apply below_alloc | apply pw_below_drewN | apply below_drew1 | refine below_set ?_ GE203.out) | exact HB.out)) hb); clear BK203; clear HB; have BK203 := n0_; have HB := n1_; clear n0_ n1_; (try clear hb); (try clear hb2); (try clear hk); (try clear hi); (try simp only [errW_none, errW_some]); have hcz18_0 : w17.cell? ⟨gb203, 0, none⟩ = some (.int .i64 a2_0) := (blk_cell BK203.out 0).trans rfl; have hcz18_1 : w17.cell? ⟨gb203, 1, none⟩ = some (.int .i64 a2_1) := (blk_cell BK203.out 1).trans rfl; have hfz18_0 := blk_frozen BK203.out 0; have hfz18_1 := blk_frozen BK203.out 1) | (go_at_call 14; (with_reducible refine (half_Carrier.calls a0 a1 a2_0 t210 t211 _ A8.out (Sent.sub (show ∀ c, c ∈ half_Carrier.L → c ∈ tesseralaw05_HalfNumbers.L by decide) (Sent.below HS.out (by repeat (first | (with_reducible first | exact HB.out | apply below_alloc | apply pw_below_drewN | apply below_drew1 | refine below_set ?_ GE203.out) | exact HB.out))))).mono ?_); rintro e w' ⟨rfl, ⟨nd, rfl⟩⟩; (try simp only [errW_none, errW_some]); (try first | exact ⟨rfl, _, World.drewN_drewN _ _ _⟩ | exact ⟨rfl, _, Eq.trans (World.drewN_drewN _ _ _) (congrArg (World.drewN _) (Nat.add_assoc _ _ _))⟩)) | (go_at_call 13; (with_reducible refine (half_Carried.calls k a0 a1 a2_0 t212 t213 _ A9.out (Sent.sub (show ∀ c, c ∈ half_Carried.L → c ∈ tesseralaw05_HalfNumbers.L by decide) (Sent.below HS.out (by repeat (first | (with_reducible first | exact HB.out | apply below_alloc | apply pw_below_drewN | apply below_drew1 | refine below_set ?_ GE203.out) | exact HB.out))))).mono ?_); rintro e w19 ⟨v214, rfl, ho0, hb⟩; have n0_ := Aside0.mk (Kd.R_lower ho0 (below_size (by repeat (first | (with_reducible first | exact HB.out | apply below_alloc | apply pw_below_drewN | apply below_drew1 | refine below_set ?_ GE203.out) | exact HB.out)))); have n1_ := Aside0.mk (blk_below (g := gb203) (o := .cells #[.int .i64 a2_0, .int .i64 a2_1] 51 (0, 0)) (by (with_reducible repeat (first | refine blk_drewN ?_ _ | refine blk_drew ?_ | refine blk_alloc ?_ _)); exact BK203.out) hb); have n2_ := Aside0.mk (below_step (by repeat (first | (with_reducible first | exact HB.out | apply below_alloc | apply pw_below_drewN | apply below_drew1 | refine below_set ?_ GE203.out) | exact HB.out)) hb); clear BK203; clear HB; have HO215 := n0_; have BK203 := n1_; have HB := n2_; clear n0_ n1_ n2_; (try clear hb); (try clear hb2); (try clear hk); (try clear hi); (try clear ho0); (try simp only [errW_none, errW_some])) | (go_at_call 11; (with_reducible refine (tesseraref04_Legal.calls a0 a1 t216 _ A10.out).mono ?_); rintro e w' ⟨rfl, ⟨nd, rfl⟩⟩; (try first | exact ⟨rfl, _, World.drewN_drewN _ _ _⟩ | exact ⟨rfl, _, Eq.trans (World.drewN_drewN _ _ _) (congrArg (World.drewN _) (Nat.add_assoc _ _ _))⟩))))
  (try simp only [Act.put, List.setIfInBounds_toArray, List.set_cons_zero, List.set_cons_succ])
  go_cut [] (fun wc => ∃ (kq : Nat), Aside0 (tesseralaw05_HalfNumbers.j0 kq a0 a1 t205 t206 t207 t208 t209 t210 t211 t212 t213 a2_0 a2_1 = some r) ∧ Aside0 (kq ≤ k) ∧ Aside0 (Kd.R (Kd.int .i64) 3 wc w.heap.size (fun _ => True) v214 t212) ∧ Aside0 (wc.heap[gb203]? = some (.cells #[.int .i64 a2_0, .int .i64 a2_1] 51 (0, 0))) ∧ Aside0 (Below w.heap.size w wc))
  case first =>
   have H := HC11.out
   clear HC11
   by_cases c20 : t216 = true
   ·subst c20
    have H1 : (tesseralaw05_HalfNumbers.j0 k a0 a1 t205 t206 t207 t208 t209 t210 t211 t212 t213 a2_0 a2_1) = some r := by rw [if_pos rfl] at H; exact H
    clear H
    have H := H1
    clear H1
    as_aux_lemma =>
     have H' := Aside0.mk H
     clear H
     go_wp2
     repeat (go_quiet (fail); try go_wp2)
     go_meet
     case rel => exact ⟨_, H', ⟨by first | omega | exact Nat.le_refl _⟩, ⟨by (with_reducible repeat (first | apply Kd.R_alloc | apply Kd.R_drewN | apply Kd.R_drew)); exact HO215.out⟩, ⟨by (with_reducible repeat (first | refine blk_drewN ?_ _ | refine blk_drew ?_ | refine blk_alloc ?_ _)); exact BK203.out⟩, ⟨by repeat (first | (with_reducible first | exact HB.out | apply below_alloc | apply pw_below_drewN | apply below_drew1 | refine below_set ?_ GE203.out) | exact HB.out)⟩⟩
   ·replace c20 := Bool.eq_false_iff.mpr c20
    subst c20
    have H1 : (if (errOk tesseralaw05_HalfNumbers.L t206) = true then (if (errEq t206 1) = true then (if (errOk tesseralaw05_HalfNumbers.L t209) = true then (if (errEq t209 1) = true then (if (errOk tesseralaw05_HalfNumbers.L t211) = true then (if (errEq t211 1) = true then (if (errOk tesseralaw05_HalfNumbers.L t213) = true then (if (errEq t213 1) = true then (if t205 = 0 then (if t207 = 0 then (if t208 = 0 then (if t210 = 0 then (some ((t212.length : Int) == 0)) else (some false)) else (some false)) else (some false)) else (some false)) else (some false)) else (none)) else (some false)) else (none)) else (some false)) else (none)) else (some false)) else (none)) = some r := by rw [if_neg (show ¬ (false = true) by decide)] at H; exact H
    clear H
    have H := H1
    clear H1
    by_cases c21 : (errOk tesseralaw05_HalfNumbers.L t206) = true
    ·rw [if_pos c21] at H
     have c21b0 : (errOk tesseralaw05_HalfNumbers.L t206) = true := c21
     clear c21
     (first | rw [c21b0] | (simp only [i64_w, i32_w]; rw [c21b0]) | skip)
     have hq22 := fun (W_ : World) (hb_ : SentW w W_) => Sent.eqlB HS.out t206 1 (by assumption) (by decide) W_ hb_.below
     have hq22_ := fun (W_ : World) (hb_ : Aside0 (Below w.heap.size w W_)) (n_ : Nat) => Sent.eqlB HS.out t206 1 (by assumption) (by decide) (W_.drewN n_) (pw_below_drewN hb_.out n_)
     by_cases c23 : (errEq t206 1) = true
     ·rw [if_pos c23] at H
      have c23b0 : (errEq t206 1) = true := c23
      clear c23
      by_cases c24 : (errOk tesseralaw05_HalfNumbers.L t209) = true
      ·rw [if_pos c24] at H
       have c24b0 : (errOk tesseralaw05_HalfNumbers.L t209) = true := c24
       clear c24
       have hq25 := fun (W_ : World) (hb_ : SentW w W_) => Sent.eqlB HS.out t209 1 (by assumption) (by decide) W_ hb_.below
       have hq25_ := fun (W_ : World) (hb_ : Aside0 (Below w.heap.size w W_)) (n_ : Nat) => Sent.eqlB HS.out t209 1 (by assumption) (by decide) (W_.drewN n_) (pw_below_drewN hb_.out n_)
       by_cases c26 : (errEq t209 1) = true
       ·rw [if_pos c26] at H
        have c26b0 : (errEq t209 1) = true := c26
        clear c26
        by_cases c27 : (errOk tesseralaw05_HalfNumbers.L t211) = true
        ·rw [if_pos c27] at H
         have c27b0 : (errOk tesseralaw05_HalfNumbers.L t211) = true := c27
         clear c27
         have hq28 := fun (W_ : World) (hb_ : SentW w W_) => Sent.eqlB HS.out t211 1 (by assumption) (by decide) W_ hb_.below
         have hq28_ := fun (W_ : World) (hb_ : Aside0 (Below w.heap.size w W_)) (n_ : Nat) => Sent.eqlB HS.out t211 1 (by assumption) (by decide) (W_.drewN n_) (pw_below_drewN hb_.out n_)
         by_cases c29 : (errEq t211 1) = true
         ·rw [if_pos c29] at H
          have c29b0 : (errEq t211 1) = true := c29
          clear c29
          by_cases c30 : (errOk tesseralaw05_HalfNumbers.L t213) = true
          ·rw [if_pos c30] at H
           have c30b0 : (errOk tesseralaw05_HalfNumbers.L t213) = true := c30
           clear c30
           have hq31 := fun (W_ : World) (hb_ : SentW w W_) => Sent.eqlB HS.out t213 1 (by assumption) (by decide) W_ hb_.below
           have hq31_ := fun (W_ : World) (hb_ : Aside0 (Below w.heap.size w W_)) (n_ : Nat) => Sent.eqlB HS.out t213 1 (by assumption) (by decide) (W_.drewN n_) (pw_below_drewN hb_.out n_)
           by_cases c32 : (errEq t213 1) = true
           ·rw [if_pos c32] at H
            have c32b0 : (errEq t213 1) = true := c32
            clear c32
            by_cases c33 : t205 = 0
            ·rw [if_pos c33] at H
             have c33b0 : (t205 == 0) = true := beq_iff_eq.mpr c33
             have c33b1 : (t205 != 0) = false := bne_eq_false_iff_eq.mpr c33
             clear c33
             by_cases c34 : t207 = 0
             ·rw [if_pos c34] at H
              have c34b0 : (t207 == 0) = true := beq_iff_eq.mpr c34
              have c34b1 : (t207 != 0) = false := bne_eq_false_iff_eq.mpr c34
              clear c34
              by_cases c35 : t208 = 0
              ·rw [if_pos c35] at H
               have c35b0 : (t208 == 0) = true := beq_iff_eq.mpr c35
               have c35b1 : (t208 != 0) = false := bne_eq_false_iff_eq.mpr c35
               clear c35
               by_cases c36 : t210 = 0
               ·rw [if_pos c36] at H
                have c36b0 : (t210 == 0) = true := beq_iff_eq.mpr c36
                have c36b1 : (t210 != 0) = false := bne_eq_false_iff_eq.mpr c36
                clear c36
                as_aux_lemma =>
                 obtain rfl := Option.some.inj H
                 obtain ⟨Ao37, co37, eo37⟩ := Kd.R_slice HO215.out
                 subst eo37
                 go_wp2
                 repeat (go_quiet (fail); try go_wp2)
                 go_ret
                 exact ⟨by first | rfl | (simp [errW_none, errW_some] <;> rfl) | (simp [*, errW_none, errW_some] <;> rfl), by repeat (first | (with_reducible first | exact HB.out | apply below_alloc | apply pw_below_drewN | apply below_drew1 | refine below_set ?_ GE203.out) | exact HB.out)⟩
               ·rw [if_neg c36] at H
                have c36b0 : (t210 == 0) = false := beq_eq_false_iff_ne.mpr c36
                have c36b1 : (t210 != 0) = true := bne_iff_ne.mpr c36
                as_aux_lemma =>
                 exact absurd ((Option.some.inj H).trans HT.out) (by decide)
              ·rw [if_neg c35] at H
               have c35b0 : (t208 == 0) = false := beq_eq_false_iff_ne.mpr c35
               have c35b1 : (t208 != 0) = true := bne_iff_ne.mpr c35
               as_aux_lemma =>
                exact absurd ((Option.some.inj H).trans HT.out) (by decide)
             ·rw [if_neg c34] at H
              have c34b0 : (t207 == 0) = false := beq_eq_false_iff_ne.mpr c34
              have c34b1 : (t207 != 0) = true := bne_iff_ne.mpr c34
              as_aux_lemma =>
               exact absurd ((Option.some.inj H).trans HT.out) (by decide)
            ·rw [if_neg c33] at H
             have c33b0 : (t205 == 0) = false := beq_eq_false_iff_ne.mpr c33
             have c33b1 : (t205 != 0) = true := bne_iff_ne.mpr c33
             as_aux_lemma =>
              exact absurd ((Option.some.inj H).trans HT.out) (by decide)
           ·rw [if_neg c32] at H
            have c32b0 : (errEq t213 1) = false := by simpa using c32
            clear c32
            as_aux_lemma =>
             exact absurd ((Option.some.inj H).trans HT.out) (by decide)
          ·rw [if_neg c30] at H
           exact absurd H (by simp)
         ·rw [if_neg c29] at H
          have c29b0 : (errEq t211 1) = false := by simpa using c29
          clear c29
          as_aux_lemma =>
           exact absurd ((Option.some.inj H).trans HT.out) (by decide)
        ·rw [if_neg c27] at H
         exact absurd H (by simp)
       ·rw [if_neg c26] at H
        have c26b0 : (errEq t209 1) = false := by simpa using c26
        clear c26
        as_aux_lemma =>
         exact absurd ((Option.some.inj H).trans HT.out) (by decide)
      ·rw [if_neg c24] at H
       exact absurd H (by simp)
     ·rw [if_neg c23] at H
      have c23b0 : (errEq t206 1) = false := by simpa using c23
      clear c23
      as_aux_lemma =>
       exact absurd ((Option.some.inj H).trans HT.out) (by decide)
    ·rw [if_neg c21] at H
     exact absurd H (by simp)
  case rest =>
   clear HC11
   try clear c2
   try clear p2
   try clear q2
   try clear c3
   try clear q3
   try clear c5
   try clear c6
   try clear c20
   try clear c21
   try clear c21b0
   try clear q22
   try clear c23
   try clear c23b0
   try clear c24
   try clear c24b0
   try clear q25
   try clear c26
   try clear c26b0
   try clear c27
   try clear c27b0
   try clear q28
   try clear c29
   try clear c29b0
   try clear c30
   try clear c30b0
   try clear q31
   try clear c32
   try clear c32b0
   try clear c33
   try clear c33b0
   try clear c33b1
   try clear c34
   try clear c34b0
   try clear c34b1
   try clear c35
   try clear c35b0
   try clear c35b1
   try clear c36
   try clear c36b0
   try clear c36b1
   try clear hcz14_0
   try clear hcz14_1
   try clear hcz16_0
   try clear hcz16_1
   try clear hcz18_0
   try clear hcz18_1
   try clear hfz14_0
   try clear hfz14_1
   try clear hfz16_0
   try clear hfz16_1
   try clear hfz18_0
   try clear hfz18_1
   obtain ⟨kq, HA, HJ10, HO_14, BK203, HB⟩ := hcut
   cases kq with
   | zero => exact absurd HA.out (by simp [tesseralaw05_HalfNumbers.j0])
   | succ kj10 =>
    have H := HA.out
    clear HA
    first | rw [tesseralaw05_HalfNumbers.j0] at H | simp only [tesseralaw05_HalfNumbers.j0] at H
    have HC38 := Aside0.mk H
    clear H
    go_upto_region 9 with (fail)
    repeat (go_quiet (fail); go_upto_region 9 with (fail))
    go_cut [118] (fun v118 wc => ∃ (kq : Nat) (x118_37 : Bool), v118 = .bool x118_37 ∧ Aside0 (tesseralaw05_HalfNumbers.j1 kq a0 a1 t205 t206 t207 t208 t209 t210 t211 t212 t213 x118_37 a2_0 a2_1 = some r) ∧ Aside0 (kq ≤ kj10) ∧ Aside0 (Kd.R (Kd.int .i64) 3 wc w.heap.size (fun _ => True) v214 t212) ∧ Aside0 (wc.heap[gb203]? = some (.cells #[.int .i64 a2_0, .int .i64 a2_1] 51 (0, 0))) ∧ Aside0 (Below w.heap.size w wc))
    case first =>
     have H := HC38.out
     clear HC38
     by_cases c39 : a2_0 < 0
     ·rw [if_pos c39] at H
      have c39b0 : decide (a2_0 < 0) = true := decide_eq_true c39
      clear c39
      (first | rw [c39b0] | (simp only [i64_w, i32_w]; rw [c39b0]) | skip)
      as_aux_lemma =>
       have H' := Aside0.mk H
       clear H
       have hcz40_0 : wc.cell? ⟨gb203, 0, none⟩ = some (.int .i64 a2_0) := (blk_cell BK203.out 0).trans rfl
       have hcz40_1 : wc.cell? ⟨gb203, 1, none⟩ = some (.int .i64 a2_1) := (blk_cell BK203.out 1).trans rfl
       have hfz40_0 := blk_frozen BK203.out 0
       have hfz40_1 := blk_frozen BK203.out 1
       go_wp2
       repeat (go_quiet (fail); try go_wp2)
       go_meet
       case rel => exact ⟨_, (true), (by first | rfl | (simp; done) | (simp [*]; done)), H', ⟨by have := HJ10.out; first | omega | exact Nat.le_refl _⟩, ⟨by (with_reducible repeat (first | apply Kd.R_alloc | apply Kd.R_drewN | apply Kd.R_drew)); exact HO_14.out⟩, ⟨by (with_reducible repeat (first | refine blk_drewN ?_ _ | refine blk_drew ?_ | refine blk_alloc ?_ _)); exact BK203.out⟩, ⟨by repeat (first | (with_reducible first | exact HB.out | apply below_alloc | apply pw_below_drewN | apply below_drew1 | refine below_set ?_ GE203.out) | exact HB.out)⟩⟩
     ·rw [if_neg c39] at H
      have c39b0 : decide (a2_0 < 0) = false := decide_eq_false c39
      clear c39
      (first | rw [c39b0] | (simp only [i64_w, i32_w]; rw [c39b0]) | skip)
      by_cases c41 : a2_0 ≥ (wrap64 (a0 + a1))
      ·rw [if_pos c41] at H
       have c41b0 : decide ((wrap64 (a0 + a1)) ≤ a2_0) = true := decide_eq_true c41
       clear c41
       as_aux_lemma =>
        have H' := Aside0.mk H
        clear H
        have hcz42_0 : wc.cell? ⟨gb203, 0, none⟩ = some (.int .i64 a2_0) := (blk_cell BK203.out 0).trans rfl
        have hcz42_1 : wc.cell? ⟨gb203, 1, none⟩ = some (.int .i64 a2_1) := (blk_cell BK203.out 1).trans rfl
        have hfz42_0 := blk_frozen BK203.out 0
        have hfz42_1 := blk_frozen BK203.out 1
        go_wp2
        repeat (go_quiet (fail); try go_wp2)
        go_meet
        case rel => exact ⟨_, (true), (by first | rfl | (simp; done) | (simp [*]; done)), H', ⟨by have := HJ10.out; first | omega | exact Nat.le_refl _⟩, ⟨by (with_reducible repeat (first | apply Kd.R_alloc | apply Kd.R_drewN | apply Kd.R_drew)); exact HO_14.out⟩, ⟨by (with_reducible repeat (first | refine blk_drewN ?_ _ | refine blk_drew ?_ | refine blk_alloc ?_ _)); exact BK203.out⟩, ⟨by repeat (first | (with_reducible first | exact HB.out | apply below_alloc | apply pw_below_drewN | apply below_drew1 | refine below_set ?_ GE203.out) | exact HB.out)⟩⟩
      ·rw [if_neg c41] at H
       have c41b0 : decide ((wrap64 (a0 + a1)) ≤ a2_0) = false := decide_eq_false c41
       clear c41
       by_cases c43 : a2_1 < 0
       ·rw [if_pos c43] at H
        have c43b0 : decide (a2_1 < 0) = true := decide_eq_true c43
        clear c43
        as_aux_lemma =>
         have H' := Aside0.mk H
         clear H
         have hcz44_0 : wc.cell? ⟨gb203, 0, none⟩ = some (.int .i64 a2_0) := (blk_cell BK203.out 0).trans rfl
         have hcz44_1 : wc.cell? ⟨gb203, 1, none⟩ = some (.int .i64 a2_1) := (blk_cell BK203.out 1).trans rfl
         have hfz44_0 := blk_frozen BK203.out 0
         have hfz44_1 := blk_frozen BK203.out 1
         go_wp2
         repeat (go_quiet (fail); try go_wp2)
         go_meet
         case rel => exact ⟨_, (true), (by first | rfl | (simp; done) | (simp [*]; done)), H', ⟨by have := HJ10.out; first | omega | exact Nat.le_refl _⟩, ⟨by (with_reducible repeat (first | apply Kd.R_alloc | apply Kd.R_drewN | apply Kd.R_drew)); exact HO_14.out⟩, ⟨by (with_reducible repeat (first | refine blk_drewN ?_ _ | refine blk_drew ?_ | refine blk_alloc ?_ _)); exact BK203.out⟩, ⟨by repeat (first | (with_reducible first | exact HB.out | apply below_alloc | apply pw_below_drewN | apply below_drew1 | refine below_set ?_ GE203.out) | exact HB.out)⟩⟩
       ·rw [if_neg c43] at H
        have c43b0 : decide (a2_1 < 0) = false := decide_eq_false c43
        clear c43
        as_aux_lemma =>
         have H' := Aside0.mk H
         clear H
         have hcz45_0 : wc.cell? ⟨gb203, 0, none⟩ = some (.int .i64 a2_0) := (blk_cell BK203.out 0).trans rfl
         have hcz45_1 : wc.cell? ⟨gb203, 1, none⟩ = some (.int .i64 a2_1) := (blk_cell BK203.out 1).trans rfl
         have hfz45_0 := blk_frozen BK203.out 0
         have hfz45_1 := blk_frozen BK203.out 1
         go_wp2
         repeat (go_quiet (fail); try go_wp2)
         go_meet
         case rel => exact ⟨_, (decide (a2_1 > 1)), (by first | rfl | (simp; done) | (simp [*]; done)), H', ⟨by have := HJ10.out; first | omega | exact Nat.le_refl _⟩, ⟨by (with_reducible repeat (first | apply Kd.R_alloc | apply Kd.R_drewN | apply Kd.R_drew)); exact HO_14.out⟩, ⟨by (with_reducible repeat (first | refine blk_drewN ?_ _ | refine blk_drew ?_ | refine blk_alloc ?_ _)); exact BK203.out⟩, ⟨by repeat (first | (with_reducible first | exact HB.out | apply below_alloc | apply pw_below_drewN | apply below_drew1 | refine below_set ?_ GE203.out) | exact HB.out)⟩⟩
    case rest =>
     clear HC38
     try clear c2
     try clear p2
     try clear q2
     try clear c3
     try clear q3
     try clear c4
     try clear c5
     try clear c6
     try clear p6
     try clear c20
     try clear c21
     try clear c21b0
     try clear q22
     try clear c23
     try clear c23b0
     try clear c24
     try clear c24b0
     try clear q25
     try clear c26
     try clear c26b0
     try clear c27
     try clear c27b0
     try clear q28
     try clear c29
     try clear c29b0
     try clear c30
     try clear c30b0
     try clear q31
     try clear c32
     try clear c32b0
     try clear c33
     try clear c33b0
     try clear c33b1
     try clear c34
     try clear c34b0
     try clear c34b1
     try clear c35
     try clear c35b0
     try clear c35b1
     try clear c36
     try clear c36b0
     try clear c36b1
     try clear c39
     try clear c39b0
     try clear c41
     try clear c41b0
     try clear c43
     try clear c43b0
     try clear hcz14_0
     try clear hcz14_1
     try clear hcz16_0
     try clear hcz16_1
     try clear hcz18_0
     try clear hcz18_1
     try clear hcz40_0
     try clear hcz40_1
     try clear hcz42_0
     try clear hcz42_1
     try clear hcz44_0
     try clear hcz44_1
     try clear hcz45_0
     try clear hcz45_1
     try clear hfz14_0
     try clear hfz14_1
     try clear hfz16_0
     try clear hfz16_1
     try clear hfz18_0
     try clear hfz18_1
     try clear hfz40_0
     try clear hfz40_1
     try clear hfz42_0
     try clear hfz42_1
     try clear hfz44_0
     try clear hfz44_1
     try clear hfz45_0
     try clear hfz45_1
     try clear p2
     try clear q2
     try clear q22
     try clear q25
     try clear q28
     try clear q3
     try clear q31
     obtain ⟨kq, x118_37, rfl, HA, HJ37, HO_14, BK203, HB⟩ := hcut
     cases kq with
     | zero => exact absurd HA.out (by simp [tesseralaw05_HalfNumbers.j1])
     | succ kj37 =>
      have H := HA.out
      clear HA
      first | rw [tesseralaw05_HalfNumbers.j1] at H | simp only [tesseralaw05_HalfNumbers.j1] at H
      have HC46 := Aside0.mk H
      clear H
      go_upto_if 118 with (fail)
      repeat (go_quiet (fail); go_upto_if 118 with (fail))
      go_cut [] (fun wc => ∃ (kq : Nat), Aside0 (tesseralaw05_HalfNumbers.j2 kq a0 a1 t207 t208 t209 t210 t211 t212 t213 a2_0 a2_1 = some r) ∧ Aside0 (kq ≤ kj37) ∧ Aside0 (Kd.R (Kd.int .i64) 3 wc w.heap.size (fun _ => True) v214 t212) ∧ Aside0 (wc.heap[gb203]? = some (.cells #[.int .i64 a2_0, .int .i64 a2_1] 51 (0, 0))) ∧ Aside0 (Below w.heap.size w wc))
      case first =>
       have H := HC46.out
       clear HC46
       by_cases c47 : x118_37 = true
       ·subst c47
        have H1 : (if (errOk tesseralaw05_HalfNumbers.L t206) = true then (if ((errEq t206 4) = true) then (if t205 = 0 then (tesseralaw05_HalfNumbers.j2 kj37 a0 a1 t207 t208 t209 t210 t211 t212 t213 a2_0 a2_1) else (some false)) else (some false)) else (none)) = some r := by rw [if_pos rfl] at H; exact H
        clear H
        have H := H1
        clear H1
        by_cases c48 : (errOk tesseralaw05_HalfNumbers.L t206) = true
        ·rw [if_pos c48] at H
         have c48b0 : (errOk tesseralaw05_HalfNumbers.L t206) = true := c48
         clear c48
         (first | rw [c48b0] | (simp only [i64_w, i32_w]; rw [c48b0]) | skip)
         have hq49 := fun (W_ : World) (hb_ : SentW w W_) => Sent.neqB HS.out t206 4 (by assumption) (by decide) W_ hb_.below
         have hq49_ := fun (W_ : World) (hb_ : Aside0 (Below w.heap.size w W_)) (n_ : Nat) => Sent.neqB HS.out t206 4 (by assumption) (by decide) (W_.drewN n_) (pw_below_drewN hb_.out n_)
         by_cases c50 : ((errEq t206 4) = true)
         ·rw [if_pos c50] at H
          have c50b0 : (errEq t206 4) = true := c50
          clear c50
          by_cases c51 : t205 = 0
          ·rw [if_pos c51] at H
           have c51b0 : (t205 == 0) = true := beq_iff_eq.mpr c51
           have c51b1 : (t205 != 0) = false := bne_eq_false_iff_eq.mpr c51
           clear c51
           as_aux_lemma =>
            have H' := Aside0.mk H
            clear H
            go_wp2
            repeat (go_quiet (fail); try go_wp2)
            go_meet
            case rel => exact ⟨_, H', ⟨by have := HJ10.out; have := HJ37.out; first | omega | exact Nat.le_refl _⟩, ⟨by (with_reducible repeat (first | apply Kd.R_alloc | apply Kd.R_drewN | apply Kd.R_drew)); exact HO_14.out⟩, ⟨by (with_reducible repeat (first | refine blk_drewN ?_ _ | refine blk_drew ?_ | refine blk_alloc ?_ _)); exact BK203.out⟩, ⟨by repeat (first | (with_reducible first | exact HB.out | apply below_alloc | apply pw_below_drewN | apply below_drew1 | refine below_set ?_ GE203.out) | exact HB.out)⟩⟩
          ·rw [if_neg c51] at H
           have c51b0 : (t205 == 0) = false := beq_eq_false_iff_ne.mpr c51
           have c51b1 : (t205 != 0) = true := bne_iff_ne.mpr c51
           as_aux_lemma =>
            exact absurd ((Option.some.inj H).trans HT.out) (by decide)
         ·rw [if_neg c50] at H
          have c50b0 : (errEq t206 4) = false := by simpa using c50
          clear c50
          as_aux_lemma =>
           exact absurd ((Option.some.inj H).trans HT.out) (by decide)
        ·rw [if_neg c48] at H
         exact absurd H (by simp)
       ·replace c47 := Bool.eq_false_iff.mpr c47
        subst c47
        have H1 : (if ((isNil t206) = true) then (if t205 = (wrap64 ((wrap64 (2 * a2_0)) + a2_1)) then (tesseralaw05_HalfNumbers.j2 kj37 a0 a1 t207 t208 t209 t210 t211 t212 t213 a2_0 a2_1) else (some false)) else (some false)) = some r := by rw [if_neg (show ¬ (false = true) by decide)] at H; exact H
        clear H
        have H := H1
        clear H1
        have hq52 := fun (W_ : World) => errW_neq_nil t206 W_
        by_cases c53 : ((isNil t206) = true)
        ·rw [if_pos c53] at H
         have c53b0 : (isNil t206) = true := c53
         clear c53
         by_cases c54 : t205 = (wrap64 ((wrap64 (2 * a2_0)) + a2_1))
         ·rw [if_pos c54] at H
          have c54b0 : (t205 == (wrap64 ((wrap64 (2 * a2_0)) + a2_1))) = true := beq_iff_eq.mpr c54
          have c54b1 : (t205 != (wrap64 ((wrap64 (2 * a2_0)) + a2_1))) = false := bne_eq_false_iff_eq.mpr c54
          clear c54
          as_aux_lemma =>
           have H' := Aside0.mk H
           clear H
           have hcz55_0 : wc.cell? ⟨gb203, 0, none⟩ = some (.int .i64 a2_0) := (blk_cell BK203.out 0).trans rfl
           have hcz55_1 : wc.cell? ⟨gb203, 1, none⟩ = some (.int .i64 a2_1) := (blk_cell BK203.out 1).trans rfl
           have hfz55_0 := blk_frozen BK203.out 0
           have hfz55_1 := blk_frozen BK203.out 1
           go_wp2
           repeat (go_quiet (fail); try go_wp2)
           go_meet
           case rel => exact ⟨_, H', ⟨by have := HJ10.out; have := HJ37.out; first | omega | exact Nat.le_refl _⟩, ⟨by (with_reducible repeat (first | apply Kd.R_alloc | apply Kd.R_drewN | apply Kd.R_drew)); exact HO_14.out⟩, ⟨by (with_reducible repeat (first | refine blk_drewN ?_ _ | refine blk_drew ?_ | refine blk_alloc ?_ _)); exact BK203.out⟩, ⟨by repeat (first | (with_reducible first | exact HB.out | apply below_alloc | apply pw_below_drewN | apply below_drew1 | refine below_set ?_ GE203.out) | exact HB.out)⟩⟩
         ·rw [if_neg c54] at H
          have c54b0 : (t205 == (wrap64 ((wrap64 (2 * a2_0)) + a2_1))) = false := beq_eq_false_iff_ne.mpr c54
          have c54b1 : (t205 != (wrap64 ((wrap64 (2 * a2_0)) + a2_1))) = true := bne_iff_ne.mpr c54
          as_aux_lemma =>
           exact absurd ((Option.some.inj H).trans HT.out) (by decide)
        ·rw [if_neg c53] at H
         have c53b0 : (isNil t206) = false := by simpa using c53
         clear c53
         as_aux_lemma =>
          exact absurd ((Option.some.inj H).trans HT.out) (by decide)
      case rest =>
       clear HC46
       try clear c2
       try clear p2
       try clear q2
       try clear c3
       try clear q3
       try clear c4
       try clear q4
       try clear c5
       try clear q5
       try clear c6
       try clear p6
       try clear c20
       try clear c21
       try clear c21b0
       try clear q22
       try clear c23
       try clear c23b0
       try clear c24
       try clear c24b0
       try clear q25
       try clear c26
       try clear c26b0
       try clear c27
       try clear c27b0
       try clear q28
       try clear c29
       try clear c29b0
       try clear c30
       try clear c30b0
       try clear q31
       try clear c32
       try clear c32b0
       try clear c33
       try clear c33b0
       try clear c33b1
       try clear c34
       try clear c34b0
       try clear c34b1
       try clear c35
       try clear c35b0
       try clear c35b1
       try clear c36
       try clear c36b0
       try clear c36b1
       try clear c39
       try clear c39b0
       try clear c41
       try clear c41b0
       try clear c43
       try clear c43b0
       try clear c47
       try clear c48
       try clear c48b0
       try clear q49
       try clear c50
       try clear c50b0
       try clear c51
       try clear c51b0
       try clear c51b1
       try clear q52
       try clear c53
       try clear c53b0
       try clear c54
       try clear c54b0
       try clear c54b1
       try clear hcz14_0
       try clear hcz14_1
       try clear hcz16_0
       try clear hcz16_1
       try clear hcz18_0
       try clear hcz18_1
       try clear hcz40_0
       try clear hcz40_1
       try clear hcz42_0
       try clear hcz42_1
       try clear hcz44_0
       try clear hcz44_1
       try clear hcz45_0
       try clear hcz45_1
       try clear hcz55_0
       try clear hcz55_1
       try clear hfz14_0
       try clear hfz14_1
       try clear hfz16_0
       try clear hfz16_1
       try clear hfz18_0
       try clear hfz18_1
       try clear hfz40_0
       try clear hfz40_1
       try clear hfz42_0
       try clear hfz42_1
       try clear hfz44_0
       try clear hfz44_1
       try clear hfz45_0
       try clear hfz45_1
       try clear hfz55_0
       try clear hfz55_1
       try clear p2
       try clear p6
       try clear q2
       try clear q22
       try clear q25
       try clear q28
       try clear q3
       try clear q31
       obtain ⟨kq, HA, HJ45, HO_14, BK203, HB⟩ := hcut
       cases kq with
       | zero => exact absurd HA.out (by simp [tesseralaw05_HalfNumbers.j2])
       | succ kj45 =>
        have H := HA.out
        clear HA
        first | rw [tesseralaw05_HalfNumbers.j2] at H | simp only [tesseralaw05_HalfNumbers.j2] at H
        have HC56 := Aside0.mk H
        clear H
        go_upto_region 14 with (fail)
        repeat (go_quiet (fail); go_upto_region 14 with (fail))
        go_cut [149] (fun v149 wc => ∃ (kq : Nat) (x149_55 : Bool), v149 = .bool x149_55 ∧ Aside0 (tesseralaw05_HalfNumbers.j3 kq a0 a1 t207 t208 t209 t210 t211 t212 t213 x149_55 a2_0 a2_1 = some r) ∧ Aside0 (kq ≤ kj45) ∧ Aside0 (Kd.R (Kd.int .i64) 3 wc w.heap.size (fun _ => True) v214 t212) ∧ Aside0 (wc.heap[gb203]? = some (.cells #[.int .i64 a2_0, .int .i64 a2_1] 51 (0, 0))) ∧ Aside0 (Below w.heap.size w wc))
        case first =>
         have H := HC56.out
         clear HC56
         by_cases c57 : a2_0 < 0
         ·rw [if_pos c57] at H
          have c57b0 : decide (a2_0 < 0) = true := decide_eq_true c57
          clear c57
          (first | rw [c57b0] | (simp only [i64_w, i32_w]; rw [c57b0]) | skip)
          as_aux_lemma =>
           have H' := Aside0.mk H
           clear H
           have hcz58_0 : wc.cell? ⟨gb203, 0, none⟩ = some (.int .i64 a2_0) := (blk_cell BK203.out 0).trans rfl
           have hcz58_1 : wc.cell? ⟨gb203, 1, none⟩ = some (.int .i64 a2_1) := (blk_cell BK203.out 1).trans rfl
           have hfz58_0 := blk_frozen BK203.out 0
           have hfz58_1 := blk_frozen BK203.out 1
           go_wp2
           repeat (go_quiet (fail); try go_wp2)
           go_meet
           case rel => exact ⟨_, (true), (by first | rfl | (simp; done) | (simp [*]; done)), H', ⟨by have := HJ10.out; have := HJ37.out; have := HJ45.out; first | omega | exact Nat.le_refl _⟩, ⟨by (with_reducible repeat (first | apply Kd.R_alloc | apply Kd.R_drewN | apply Kd.R_drew)); exact HO_14.out⟩, ⟨by (with_reducible repeat (first | refine blk_drewN ?_ _ | refine blk_drew ?_ | refine blk_alloc ?_ _)); exact BK203.out⟩, ⟨by repeat (first | (with_reducible first | exact HB.out | apply below_alloc | apply pw_below_drewN | apply below_drew1 | refine below_set ?_ GE203.out) | exact HB.out)⟩⟩
         ·rw [if_neg c57] at H
          have c57b0 : decide (a2_0 < 0) = false := decide_eq_false c57
          clear c57
          (first | rw [c57b0] | (simp only [i64_w, i32_w]; rw [c57b0]) | skip)
          as_aux_lemma =>
           have H' := Aside0.mk H
           clear H
           have hcz59_0 : wc.cell? ⟨gb203, 0, none⟩ = some (.int .i64 a2_0) := (blk_cell BK203.out 0).trans rfl
           have hcz59_1 : wc.cell? ⟨gb203, 1, none⟩ = some (.int .i64 a2_1) := (blk_cell BK203.out 1).trans rfl
           have hfz59_0 := blk_frozen BK203.out 0
           have hfz59_1 := blk_frozen BK203.out 1
           go_wp2
           repeat (go_quiet (fail); try go_wp2)
           go_meet
           case rel => exact ⟨_, (decide (a2_0 ≥ (wrap64 (2 * (wrap64 (a0 + a1)))))), (by first | rfl | (simp; done) | (simp [*]; done)), H', ⟨by have := HJ10.out; have := HJ37.out; have := HJ45.out; first | omega | exact Nat.le_refl _⟩, ⟨by (with_reducible repeat (first | apply Kd.R_alloc | apply Kd.R_drewN | apply Kd.R_drew)); exact HO_14.out⟩, ⟨by (with_reducible repeat (first | refine blk_drewN ?_ _ | refine blk_drew ?_ | refine blk_alloc ?_ _)); exact BK203.out⟩, ⟨by repeat (first | (with_reducible first | exact HB.out | apply below_alloc | apply pw_below_drewN | apply below_drew1 | refine below_set ?_ GE203.out) | exact HB.out)⟩⟩
        case rest =>
         clear HC56
         try clear c2
         try clear p2
         try clear q2
         try clear c3
         try clear q3
         try clear c4
         try clear q4
         try clear c5
         try clear q5
         try clear c6
         try clear p6
         try clear c20
         try clear c21
         try clear c21b0
         try clear q22
         try clear c23
         try clear c23b0
         try clear c24
         try clear c24b0
         try clear q25
         try clear c26
         try clear c26b0
         try clear c27
         try clear c27b0
         try clear q28
         try clear c29
         try clear c29b0
         try clear c30
         try clear c30b0
         try clear q31
         try clear c32
         try clear c32b0
         try clear c33
         try clear c33b0
         try clear c33b1
         try clear c34
         try clear c34b0
         try clear c34b1
         try clear c35
         try clear c35b0
         try clear c35b1
         try clear c36
         try clear c36b0
         try clear c36b1
         try clear c39
         try clear c39b0
         try clear c41
         try clear c41b0
         try clear c43
         try clear c43b0
         try clear c47
         try clear c48
         try clear c48b0
         try clear q49
         try clear c50
         try clear c50b0
         try clear c51
         try clear c51b0
         try clear c51b1
         try clear q52
         try clear c53
         try clear c53b0
         try clear c54
         try clear c54b0
         try clear c54b1
         try clear c57
         try clear c57b0
         try clear hcz14_0
         try clear hcz14_1
         try clear hcz16_0
         try clear hcz16_1
         try clear hcz18_0
         try clear hcz18_1
         try clear hcz40_0
         try clear hcz40_1
         try clear hcz42_0
         try clear hcz42_1
         try clear hcz44_0
         try clear hcz44_1
         try clear hcz45_0
         try clear hcz45_1
         try clear hcz55_0
         try clear hcz55_1
         try clear hcz58_0
         try clear hcz58_1
         try clear hcz59_0
         try clear hcz59_1
         try clear hfz14_0
         try clear hfz14_1
         try clear hfz16_0
         try clear hfz16_1
         try clear hfz18_0
         try clear hfz18_1
         try clear hfz40_0
         try clear hfz40_1
         try clear hfz42_0
         try clear hfz42_1
         try clear hfz44_0
         try clear hfz44_1
         try clear hfz45_0
         try clear hfz45_1
         try clear hfz55_0
         try clear hfz55_1
         try clear hfz58_0
         try clear hfz58_1
         try clear hfz59_0
         try clear hfz59_1
         try clear p2
         try clear p6
         try clear q2
         try clear q22
         try clear q25
         try clear q28
         try clear q3
         try clear q31
         try clear q4
         try clear q49
         try clear q5
         try clear q52
         obtain ⟨kq, x149_55, rfl, HA, HJ55, HO_14, BK203, HB⟩ := hcut
         cases kq with
         | zero => exact absurd HA.out (by simp [tesseralaw05_HalfNumbers.j3])
         | succ kj55 =>
          have H := HA.out
          clear HA
          first | rw [tesseralaw05_HalfNumbers.j3] at H | simp only [tesseralaw05_HalfNumbers.j3] at H
          have HC60 := Aside0.mk H
          clear H
          go_upto_if 149 with (fail)
          repeat (go_quiet (fail); go_upto_if 149 with (fail))
          go_cut [] (fun wc => ∃ (kq : Nat), Aside0 (tesseralaw05_HalfNumbers.j4 kq a0 a1 t210 t211 t212 t213 a2_0 a2_1 = some r) ∧ Aside0 (kq ≤ kj55) ∧ Aside0 (Kd.R (Kd.int .i64) 3 wc w.heap.size (fun _ => True) v214 t212) ∧ Aside0 (wc.heap[gb203]? = some (.cells #[.int .i64 a2_0, .int .i64 a2_1] 51 (0, 0))) ∧ Aside0 (Below w.heap.size w wc))
          case first =>
           have H := HC60.out
           clear HC60
           by_cases c61 : x149_55 = true
           ·subst c61
            have H1 : (if (errOk tesseralaw05_HalfNumbers.L t209) = true then (if ((errEq t209 4) = true) then (if t207 = 0 then (if t208 = 0 then (tesseralaw05_HalfNumbers.j4 kj55 a0 a1 t210 t211 t212 t213 a2_0 a2_1) else (some false)) else (some false)) else (some false)) else (none)) = some r := by rw [if_pos rfl] at H; exact H
            clear H
            have H := H1
            clear H1
            by_cases c62 : (errOk tesseralaw05_HalfNumbers.L t209) = true
            ·rw [if_pos c62] at H
             have c62b0 : (errOk tesseralaw05_HalfNumbers.L t209) = true := c62
             clear c62
             (first | rw [c62b0] | (simp only [i64_w, i32_w]; rw [c62b0]) | skip)
             have hq63 := fun (W_ : World) (hb_ : SentW w W_) => Sent.neqB HS.out t209 4 (by assumption) (by decide) W_ hb_.below
             have hq63_ := fun (W_ : World) (hb_ : Aside0 (Below w.heap.size w W_)) (n_ : Nat) => Sent.neqB HS.out t209 4 (by assumption) (by decide) (W_.drewN n_) (pw_below_drewN hb_.out n_)
             by_cases c64 : ((errEq t209 4) = true)
             ·rw [if_pos c64] at H
              have c64b0 : (errEq t209 4) = true := c64
              clear c64
              by_cases c65 : t207 = 0
              ·rw [if_pos c65] at H
               have c65b0 : (t207 == 0) = true := beq_iff_eq.mpr c65
               have c65b1 : (t207 != 0) = false := bne_eq_false_iff_eq.mpr c65
               clear c65
               by_cases c66 : t208 = 0
               ·rw [if_pos c66] at H
                have c66b0 : (t208 == 0) = true := beq_iff_eq.mpr c66
                have c66b1 : (t208 != 0) = false := bne_eq_false_iff_eq.mpr c66
                clear c66
                as_aux_lemma =>
                 have H' := Aside0.mk H
                 clear H
                 go_wp2
                 repeat (go_quiet (fail); try go_wp2)
                 go_meet
                 case rel => exact ⟨_, H', ⟨by have := HJ10.out; have := HJ37.out; have := HJ45.out; have := HJ55.out; first | omega | exact Nat.le_refl _⟩, ⟨by (with_reducible repeat (first | apply Kd.R_alloc | apply Kd.R_drewN | apply Kd.R_drew)); exact HO_14.out⟩, ⟨by (with_reducible repeat (first | refine blk_drewN ?_ _ | refine blk_drew ?_ | refine blk_alloc ?_ _)); exact BK203.out⟩, ⟨by repeat (first | (with_reducible first | exact HB.out | apply below_alloc | apply pw_below_drewN | apply below_drew1 | refine below_set ?_ GE203.out) | exact HB.out)⟩⟩
               ·rw [if_neg c66] at H
                have c66b0 : (t208 == 0) = false := beq_eq_false_iff_ne.mpr c66
                have c66b1 : (t208 != 0) = true := bne_iff_ne.mpr c66
                as_aux_lemma =>
                 exact absurd ((Option.some.inj H).trans HT.out) (by decide)
              ·rw [if_neg c65] at H
               have c65b0 : (t207 == 0) = false := beq_eq_false_iff_ne.mpr c65
               have c65b1 : (t207 != 0) = true := bne_iff_ne.mpr c65
               as_aux_lemma =>
                exact absurd ((Option.some.inj H).trans HT.out) (by decide)
             ·rw [if_neg c64] at H
              have c64b0 : (errEq t209 4) = false := by simpa using c64
              clear c64
              as_aux_lemma =>
               exact absurd ((Option.some.inj H).trans HT.out) (by decide)
            ·rw [if_neg c62] at H
             exact absurd H (by simp)
           ·replace c61 := Bool.eq_false_iff.mpr c61
            subst c61
            have H1 : (if ((isNil t209) = true) then (if t207 = (wrap64 (Int.tdiv a2_0 2)) then (if t208 = (Int.tmod a2_0 2) then (tesseralaw05_HalfNumbers.j4 kj55 a0 a1 t210 t211 t212 t213 a2_0 a2_1) else (some false)) else (some false)) else (some false)) = some r := by rw [if_neg (show ¬ (false = true) by decide)] at H; exact H
            clear H
            have H := H1
            clear H1
            have hq67 := fun (W_ : World) => errW_neq_nil t209 W_
            by_cases c68 : ((isNil t209) = true)
            ·rw [if_pos c68] at H
             have c68b0 : (isNil t209) = true := c68
             clear c68
             by_cases c69 : t207 = (wrap64 (Int.tdiv a2_0 2))
             ·rw [if_pos c69] at H
              have c69b0 : (t207 == (wrap64 (Int.tdiv a2_0 2))) = true := beq_iff_eq.mpr c69
              have c69b1 : (t207 != (wrap64 (Int.tdiv a2_0 2))) = false := bne_eq_false_iff_eq.mpr c69
              clear c69
              by_cases c70 : t208 = (Int.tmod a2_0 2)
              ·rw [if_pos c70] at H
               have c70b0 : (t208 == (Int.tmod a2_0 2)) = true := beq_iff_eq.mpr c70
               have c70b1 : (t208 != (Int.tmod a2_0 2)) = false := bne_eq_false_iff_eq.mpr c70
               clear c70
               as_aux_lemma =>
                have H' := Aside0.mk H
                clear H
                have hcz71_0 : wc.cell? ⟨gb203, 0, none⟩ = some (.int .i64 a2_0) := (blk_cell BK203.out 0).trans rfl
                have hcz71_1 : wc.cell? ⟨gb203, 1, none⟩ = some (.int .i64 a2_1) := (blk_cell BK203.out 1).trans rfl
                have hfz71_0 := blk_frozen BK203.out 0
                have hfz71_1 := blk_frozen BK203.out 1
                go_wp2
                repeat (go_quiet (fail); try go_wp2)
                go_meet
                case rel => exact ⟨_, H', ⟨by have := HJ10.out; have := HJ37.out; have := HJ45.out; have := HJ55.out; first | omega | exact Nat.le_refl _⟩, ⟨by (with_reducible repeat (first | apply Kd.R_alloc | apply Kd.R_drewN | apply Kd.R_drew)); exact HO_14.out⟩, ⟨by (with_reducible repeat (first | refine blk_drewN ?_ _ | refine blk_drew ?_ | refine blk_alloc ?_ _)); exact BK203.out⟩, ⟨by repeat (first | (with_reducible first | exact HB.out | apply below_alloc | apply pw_below_drewN | apply below_drew1 | refine below_set ?_ GE203.out) | exact HB.out)⟩⟩
              ·rw [if_neg c70] at H
               have c70b0 : (t208 == (Int.tmod a2_0 2)) = false := beq_eq_false_iff_ne.mpr c70
               have c70b1 : (t208 != (Int.tmod a2_0 2)) = true := bne_iff_ne.mpr c70
               as_aux_lemma =>
                exact absurd ((Option.some.inj H).trans HT.out) (by decide)
             ·rw [if_neg c69] at H
              have c69b0 : (t207 == (wrap64 (Int.tdiv a2_0 2))) = false := beq_eq_false_iff_ne.mpr c69
              have c69b1 : (t207 != (wrap64 (Int.tdiv a2_0 2))) = true := bne_iff_ne.mpr c69
              as_aux_lemma =>
               exact absurd ((Option.some.inj H).trans HT.out) (by decide)
            ·rw [if_neg c68] at H
             have c68b0 : (isNil t209) = false := by simpa using c68
             clear c68
             as_aux_lemma =>
              exact absurd ((Option.some.inj H).trans HT.out) (by decide)
          case rest =>
           clear HC60
           try clear c2
           try clear p2
           try clear q2
           try clear c3
           try clear q3
           try clear c4
           try clear q4
           try clear c5
           try clear q5
           try clear c6
           try clear p6
           try clear q6
           try clear c7
           try clear c20
           try clear c21
           try clear c21b0
           try clear q22
           try clear c23
           try clear c23b0
           try clear c24
           try clear c24b0
           try clear q25
           try clear c26
           try clear c26b0
           try clear c27
           try clear c27b0
           try clear q28
           try clear c29
           try clear c29b0
           try clear c30
           try clear c30b0
           try clear q31
           try clear c32
           try clear c32b0
           try clear c33
           try clear c33b0
           try clear c33b1
           try clear c34
           try clear c34b0
           try clear c34b1
           try clear c35
           try clear c35b0
           try clear c35b1
           try clear c36
           try clear c36b0
           try clear c36b1
           try clear c39
           try clear c39b0
           try clear c41
           try clear c41b0
           try clear c43
           try clear c43b0
           try clear c47
           try clear c48
           try clear c48b0
           try clear q49
           try clear c50
           try clear c50b0
           try clear c51
           try clear c51b0
           try clear c51b1
           try clear q52
           try clear c53
           try clear c53b0
           try clear c54
           try clear c54b0
           try clear c54b1
           try clear c57
           try clear c57b0
           try clear c61
           try clear c62
           try clear c62b0
           try clear q63
           try clear c64
           try clear c64b0
           try clear p64
           try clear c65
           try clear c65b0
           try clear c65b1
           try clear c66
           try clear c66b0
           try clear c66b1
           try clear q67
           try clear c68
           try clear c68b0
           try clear c69
           try clear c69b0
           try clear c69b1
           try clear c70
           try clear c70b0
           try clear c70b1
           try clear hcz14_0
           try clear hcz14_1
           try clear hcz16_0
           try clear hcz16_1
           try clear hcz18_0
           try clear hcz18_1
           try clear hcz40_0
           try clear hcz40_1
           try clear hcz42_0
           try clear hcz42_1
           try clear hcz44_0
           try clear hcz44_1
           try clear hcz45_0
           try clear hcz45_1
           try clear hcz55_0
           try clear hcz55_1
           try clear hcz58_0
           try clear hcz58_1
           try clear hcz59_0
           try clear hcz59_1
           try clear hcz71_0
           try clear hcz71_1
           try clear hfz14_0
           try clear hfz14_1
           try clear hfz16_0
           try clear hfz16_1
           try clear hfz18_0
           try clear hfz18_1
           try clear hfz40_0
           try clear hfz40_1
           try clear hfz42_0
           try clear hfz42_1
           try clear hfz44_0
           try clear hfz44_1
           try clear hfz45_0
           try clear hfz45_1
           try clear hfz55_0
           try clear hfz55_1
           try clear hfz58_0
           try clear hfz58_1
           try clear hfz59_0
           try clear hfz59_1
           try clear hfz71_0
           try clear hfz71_1
           try clear p2
           try clear p6
           try clear q2
           try clear q22
           try clear q25
           try clear q28
           try clear q3
           try clear q31
           try clear q4
           try clear q49
           try clear q5
           try clear q52
           obtain ⟨kq, HA, HJ59, HO_14, BK203, HB⟩ := hcut
           cases kq with
           | zero => exact absurd HA.out (by simp [tesseralaw05_HalfNumbers.j4])
           | succ kj59 =>
            have H := HA.out
            clear HA
            first | rw [tesseralaw05_HalfNumbers.j4] at H | simp only [tesseralaw05_HalfNumbers.j4] at H
            have HC72 := Aside0.mk H
            clear H
            go_upto_region 19 with (fail)
            repeat (go_quiet (fail); go_upto_region 19 with (fail))
            go_cut [185] (fun v185 wc => ∃ (kq : Nat) (x185_71 : Bool), v185 = .bool x185_71 ∧ Aside0 (tesseralaw05_HalfNumbers.j5 kq a0 a1 t210 t211 t212 t213 x185_71 a2_0 a2_1 = some r) ∧ Aside0 (kq ≤ kj59) ∧ Aside0 (Kd.R (Kd.int .i64) 3 wc w.heap.size (fun _ => True) v214 t212) ∧ Aside0 (wc.heap[gb203]? = some (.cells #[.int .i64 a2_0, .int .i64 a2_1] 51 (0, 0))) ∧ Aside0 (Below w.heap.size w wc))
            case first =>
             have H := HC72.out
             clear HC72
             by_cases c73 : a2_0 < 0
             ·rw [if_pos c73] at H
              have c73b0 : decide (a2_0 < 0) = true := decide_eq_true c73
              clear c73
              (first | rw [c73b0] | (simp only [i64_w, i32_w]; rw [c73b0]) | skip)
              as_aux_lemma =>
               have H' := Aside0.mk H
               clear H
               have hcz74_0 : wc.cell? ⟨gb203, 0, none⟩ = some (.int .i64 a2_0) := (blk_cell BK203.out 0).trans rfl
               have hcz74_1 : wc.cell? ⟨gb203, 1, none⟩ = some (.int .i64 a2_1) := (blk_cell BK203.out 1).trans rfl
               have hfz74_0 := blk_frozen BK203.out 0
               have hfz74_1 := blk_frozen BK203.out 1
               go_wp2
               repeat (go_quiet (fail); try go_wp2)
               go_meet
               case rel => exact ⟨_, (true), (by first | rfl | (simp; done) | (simp [*]; done)), H', ⟨by have := HJ10.out; have := HJ37.out; have := HJ45.out; have := HJ55.out; have := HJ59.out; first | omega | exact Nat.le_refl _⟩, ⟨by (with_reducible repeat (first | apply Kd.R_alloc | apply Kd.R_drewN | apply Kd.R_drew)); exact HO_14.out⟩, ⟨by (with_reducible repeat (first | refine blk_drewN ?_ _ | refine blk_drew ?_ | refine blk_alloc ?_ _)); exact BK203.out⟩, ⟨by repeat (first | (with_reducible first | exact HB.out | apply below_alloc | apply pw_below_drewN | apply below_drew1 | refine below_set ?_ GE203.out) | exact HB.out)⟩⟩
             ·rw [if_neg c73] at H
              have c73b0 : decide (a2_0 < 0) = false := decide_eq_false c73
              clear c73
              (first | rw [c73b0] | (simp only [i64_w, i32_w]; rw [c73b0]) | skip)
              as_aux_lemma =>
               have H' := Aside0.mk H
               clear H
               have hcz75_0 : wc.cell? ⟨gb203, 0, none⟩ = some (.int .i64 a2_0) := (blk_cell BK203.out 0).trans rfl
               have hcz75_1 : wc.cell? ⟨gb203, 1, none⟩ = some (.int .i64 a2_1) := (blk_cell BK203.out 1).trans rfl
               have hfz75_0 := blk_frozen BK203.out 0
               have hfz75_1 := blk_frozen BK203.out 1
               go_wp2
               repeat (go_quiet (fail); try go_wp2)
               go_meet
               case rel => exact ⟨_, (decide (a2_0 ≥ a0)), (by first | rfl | (simp; done) | (simp [*]; done)), H', ⟨by have := HJ10.out; have := HJ37.out; have := HJ45.out; have := HJ55.out; have := HJ59.out; first | omega | exact Nat.le_refl _⟩, ⟨by (with_reducible repeat (first | apply Kd.R_alloc | apply Kd.R_drewN | apply Kd.R_drew)); exact HO_14.out⟩, ⟨by (with_reducible repeat (first | refine blk_drewN ?_ _ | refine blk_drew ?_ | refine blk_alloc ?_ _)); exact BK203.out⟩, ⟨by repeat (first | (with_reducible first | exact HB.out | apply below_alloc | apply pw_below_drewN | apply below_drew1 | refine below_set ?_ GE203.out) | exact HB.out)⟩⟩
            case rest =>
             clear HC72
             try clear c2
             try clear p2
             try clear q2
             try clear c3
             try clear q3
             try clear c4
             try clear q4
             try clear c5
             try clear q5
             try clear c6
             try clear p6
             try clear q6
             try clear c7
             try clear c20
             try clear c21
             try clear c21b0
             try clear q22
             try clear c23
             try clear c23b0
             try clear c24
             try clear c24b0
             try clear q25
             try clear c26
             try clear c26b0
             try clear c27
             try clear c27b0
             try clear q28
             try clear c29
             try clear c29b0
             try clear c30
             try clear c30b0
             try clear q31
             try clear c32
             try clear c32b0
             try clear c33
             try clear c33b0
             try clear c33b1
             try clear c34
             try clear c34b0
             try clear c34b1
             try clear c35
             try clear c35b0
             try clear c35b1
             try clear c36
             try clear c36b0
             try clear c36b1
             try clear c39
             try clear c39b0
             try clear c41
             try clear c41b0
             try clear c43
             try clear c43b0
             try clear c47
             try clear c48
             try clear c48b0
             try clear q49
             try clear c50
             try clear c50b0
             try clear c51
             try clear c51b0
             try clear c51b1
             try clear q52
             try clear c53
             try clear c53b0
             try clear c54
             try clear c54b0
             try clear c54b1
             try clear c57
             try clear c57b0
             try clear c61
             try clear c62
             try clear c62b0
             try clear q63
             try clear c64
             try clear c64b0
             try clear p64
             try clear c65
             try clear c65b0
             try clear c65b1
             try clear c66
             try clear c66b0
             try clear c66b1
             try clear q67
             try clear c68
             try clear c68b0
             try clear c69
             try clear c69b0
             try clear c69b1
             try clear c70
             try clear c70b0
             try clear c70b1
             try clear c73
             try clear c73b0
             try clear hcz14_0
             try clear hcz14_1
             try clear hcz16_0
             try clear hcz16_1
             try clear hcz18_0
             try clear hcz18_1
             try clear hcz40_0
             try clear hcz40_1
             try clear hcz42_0
             try clear hcz42_1
             try clear hcz44_0
             try clear hcz44_1
             try clear hcz45_0
             try clear hcz45_1
             try clear hcz55_0
             try clear hcz55_1
             try clear hcz58_0
             try clear hcz58_1
             try clear hcz59_0
             try clear hcz59_1
             try clear hcz71_0
             try clear hcz71_1
             try clear hcz74_0
             try clear hcz74_1
             try clear hcz75_0
             try clear hcz75_1
             try clear hfz14_0
             try clear hfz14_1
             try clear hfz16_0
             try clear hfz16_1
             try clear hfz18_0
             try clear hfz18_1
             try clear hfz40_0
             try clear hfz40_1
             try clear hfz42_0
             try clear hfz42_1
             try clear hfz44_0
             try clear hfz44_1
             try clear hfz45_0
             try clear hfz45_1
             try clear hfz55_0
             try clear hfz55_1
             try clear hfz58_0
             try clear hfz58_1
             try clear hfz59_0
             try clear hfz59_1
             try clear hfz71_0
             try clear hfz71_1
             try clear hfz74_0
             try clear hfz74_1
             try clear hfz75_0
             try clear hfz75_1
             try clear p2
             try clear p6
             try clear p64
             try clear q2
             try clear q22
             try clear q25
             try clear q28
             try clear q3
             try clear q31
             try clear q4
             try clear q49
             try clear q5
             try clear q52
             try clear q6
             try clear q63
             try clear q67
             obtain ⟨kq, x185_71, rfl, HA, HJ71, HO_14, BK203, HB⟩ := hcut
             cases kq with
             | zero => exact absurd HA.out (by simp [tesseralaw05_HalfNumbers.j5])
             | succ kj71 =>
              have H := HA.out
              clear HA
              first | rw [tesseralaw05_HalfNumbers.j5] at H | simp only [tesseralaw05_HalfNumbers.j5] at H
              have HC76 := Aside0.mk H
              clear H
              go_upto_if 185 with (fail)
              repeat (go_quiet (fail); go_upto_if 185 with (fail))
              go_cut [] (fun wc => ∃ (kq : Nat), Aside0 (tesseralaw05_HalfNumbers.j6 kq a0 a1 t212 t213 a2_0 a2_1 = some r) ∧ Aside0 (kq ≤ kj71) ∧ Aside0 (Kd.R (Kd.int .i64) 3 wc w.heap.size (fun _ => True) v214 t212) ∧ Aside0 (wc.heap[gb203]? = some (.cells #[.int .i64 a2_0, .int .i64 a2_1] 51 (0, 0))) ∧ Aside0 (Below w.heap.size w wc))
              case first =>
               have H := HC76.out
               clear HC76
               by_cases c77 : x185_71 = true
               ·subst c77
                have H1 : (if (errOk tesseralaw05_HalfNumbers.L t211) = true then (if ((errEq t211 12) = true) then (if t210 = 0 then (tesseralaw05_HalfNumbers.j6 kj71 a0 a1 t212 t213 a2_0 a2_1) else (some false)) else (some false)) else (none)) = some r := by rw [if_pos rfl] at H; exact H
                clear H
                have H := H1
                clear H1
                by_cases c78 : (errOk tesseralaw05_HalfNumbers.L t211) = true
                ·rw [if_pos c78] at H
                 have c78b0 : (errOk tesseralaw05_HalfNumbers.L t211) = true := c78
                 clear c78
                 (first | rw [c78b0] | (simp only [i64_w, i32_w]; rw [c78b0]) | skip)
                 have hq79 := fun (W_ : World) (hb_ : SentW w W_) => Sent.neqB HS.out t211 12 (by assumption) (by decide) W_ hb_.below
                 have hq79_ := fun (W_ : World) (hb_ : Aside0 (Below w.heap.size w W_)) (n_ : Nat) => Sent.neqB HS.out t211 12 (by assumption) (by decide) (W_.drewN n_) (pw_below_drewN hb_.out n_)
                 by_cases c80 : ((errEq t211 12) = true)
                 ·rw [if_pos c80] at H
                  have c80b0 : (errEq t211 12) = true := c80
                  clear c80
                  by_cases c81 : t210 = 0
                  ·rw [if_pos c81] at H
                   have c81b0 : (t210 == 0) = true := beq_iff_eq.mpr c81
                   have c81b1 : (t210 != 0) = false := bne_eq_false_iff_eq.mpr c81
                   clear c81
                   as_aux_lemma =>
                    have H' := Aside0.mk H
                    clear H
                    go_wp2
                    repeat (go_quiet (fail); try go_wp2)
                    go_meet
                    case rel => exact ⟨_, H', ⟨by have := HJ10.out; have := HJ37.out; have := HJ45.out; have := HJ55.out; have := HJ59.out; have := HJ71.out; first | omega | exact Nat.le_refl _⟩, ⟨by (with_reducible repeat (first | apply Kd.R_alloc | apply Kd.R_drewN | apply Kd.R_drew)); exact HO_14.out⟩, ⟨by (with_reducible repeat (first | refine blk_drewN ?_ _ | refine blk_drew ?_ | refine blk_alloc ?_ _)); exact BK203.out⟩, ⟨by repeat (first | (with_reducible first | exact HB.out | apply below_alloc | apply pw_below_drewN | apply below_drew1 | refine below_set ?_ GE203.out) | exact HB.out)⟩⟩
                  ·rw [if_neg c81] at H
                   have c81b0 : (t210 == 0) = false := beq_eq_false_iff_ne.mpr c81
                   have c81b1 : (t210 != 0) = true := bne_iff_ne.mpr c81
                   as_aux_lemma =>
                    exact absurd ((Option.some.inj H).trans HT.out) (by decide)
                 ·rw [if_neg c80] at H
                  have c80b0 : (errEq t211 12) = false := by simpa using c80
                  clear c80
                  as_aux_lemma =>
                   exact absurd ((Option.some.inj H).trans HT.out) (by decide)
                ·rw [if_neg c78] at H
                 exact absurd H (by simp)
               ·replace c77 := Bool.eq_false_iff.mpr c77
                subst c77
                have H1 : (if ((isNil t211) = true) then ((tesseraref05_Carrier.f kj71 a0 a1 a2_0).bind fun t217 => (if t210 = t217 then (tesseralaw05_HalfNumbers.j6 kj71 a0 a1 t212 t213 a2_0 a2_1) else (some false))) else (some false)) = some r := by rw [if_neg (show ¬ (false = true) by decide)] at H; exact H
                clear H
                have H := H1
                clear H1
                have hq82 := fun (W_ : World) => errW_neq_nil t211 W_
                by_cases c83 : ((isNil t211) = true)
                ·rw [if_pos c83] at H
                 have c83b0 : (isNil t211) = true := c83
                 clear c83
                 replace H := Option.bind_eq_some_iff.mp H
                 obtain ⟨t217, A840, H⟩ := H
                 replace H : (if t210 = t217 then (tesseralaw05_HalfNumbers.j6 kj71 a0 a1 t212 t213 a2_0 a2_1) else (some false)) = some r := H
                 have A84 := Aside0.mk A840
                 clear A840
                 by_cases c85 : t210 = t217
                 ·rw [if_pos c85] at H
                  have c85b0 : (t210 == t217) = true := beq_iff_eq.mpr c85
                  have c85b1 : (t210 != t217) = false := bne_eq_false_iff_eq.mpr c85
                  clear c85
                  as_aux_lemma =>
                   have H' := Aside0.mk H
                   clear H
                   have hcz86_0 : wc.cell? ⟨gb203, 0, none⟩ = some (.int .i64 a2_0) := (blk_cell BK203.out 0).trans rfl
                   have hcz86_1 : wc.cell? ⟨gb203, 1, none⟩ = some (.int .i64 a2_1) := (blk_cell BK203.out 1).trans rfl
                   have hfz86_0 := blk_frozen BK203.out 0
                   have hfz86_1 := blk_frozen BK203.out 1
                   go_wp2_with (first | (go_at_call 26; (with_reducible refine (tesseraref05_Carrier.calls kj71 a0 a1 a2_0 t217 _ A84.out).mono ?_); rintro e w' ⟨rfl, ⟨nd, rfl⟩⟩; (try first | exact ⟨rfl, _, World.drewN_drewN _ _ _⟩ | exact ⟨rfl, _, Eq.trans (World.drewN_drewN _ _ _) (congrArg (World.drewN _) (Nat.add_assoc _ _ _))⟩)))
                   repeat (go_quiet (first | (go_at_call 26; (with_reducible refine (tesseraref05_Carrier.calls kj71 a0 a1 a2_0 t217 _ A84.out).mono ?_); rintro e w' ⟨rfl, ⟨nd, rfl⟩⟩; (try first | exact ⟨rfl, _, World.drewN_drewN _ _ _⟩ | exact ⟨rfl, _, Eq.trans (World.drewN_drewN _ _ _) (congrArg (World.drewN _) (Nat.add_assoc _ _ _))⟩))); try go_wp2_with (first | (go_at_call 26; (with_reducible refine (tesseraref05_Carrier.calls kj71 a0 a1 a2_0 t217 _ A84.out).mono ?_); rintro e w' ⟨rfl, ⟨nd, rfl⟩⟩; (try first | exact ⟨rfl, _, World.drewN_drewN _ _ _⟩ | exact ⟨rfl, _, Eq.trans (World.drewN_drewN _ _ _) (congrArg (World.drewN _) (Nat.add_assoc _ _ _))⟩))))
                   go_meet
                   case rel => exact ⟨_, H', ⟨by have := HJ10.out; have := HJ37.out; have := HJ45.out; have := HJ55.out; have := HJ59.out; have := HJ71.out; first | omega | exact Nat.le_refl _⟩, ⟨by (with_reducible repeat (first | apply Kd.R_alloc | apply Kd.R_drewN | apply Kd.R_drew)); exact HO_14.out⟩, ⟨by (with_reducible repeat (first | refine blk_drewN ?_ _ | refine blk_drew ?_ | refine blk_alloc ?_ _)); exact BK203.out⟩, ⟨by repeat (first | (with_reducible first | exact HB.out | apply below_alloc | apply pw_below_drewN | apply below_drew1 | refine below_set ?_ GE203.out) | exact HB.out)⟩⟩
                 ·rw [if_neg c85] at H
                  have c85b0 : (t210 == t217) = false := beq_eq_false_iff_ne.mpr c85
                  have c85b1 : (t210 != t217) = true := bne_iff_ne.mpr c85
                  as_aux_lemma =>
                   exact absurd ((Option.some.inj H).trans HT.out) (by decide)
                ·rw [if_neg c83] at H
                 have c83b0 : (isNil t211) = false := by simpa using c83
                 clear c83
                 as_aux_lemma =>
                  exact absurd ((Option.some.inj H).trans HT.out) (by decide)
              case rest =>
               clear HC76
               try clear c2
               try clear p2
               try clear q2
               try clear c3
               try clear q3
               try clear c4
               try clear q4
               try clear c5
               try clear q5
               try clear c6
               try clear p6
               try clear q6
               try clear c7
               try clear q7
               try clear c8
               try clear q8
               try clear c20
               try clear c21
               try clear c21b0
               try clear q22
               try clear c23
               try clear c23b0
               try clear c24
               try clear c24b0
               try clear q25
               try clear c26
               try clear c26b0
               try clear c27
               try clear c27b0
               try clear q28
               try clear c29
               try clear c29b0
               try clear c30
               try clear c30b0
               try clear q31
               try clear c32
               try clear c32b0
               try clear c33
               try clear c33b0
               try clear c33b1
               try clear c34
               try clear c34b0
               try clear c34b1
               try clear c35
               try clear c35b0
               try clear c35b1
               try clear c36
               try clear c36b0
               try clear c36b1
               try clear c39
               try clear c39b0
               try clear c41
               try clear c41b0
               try clear c43
               try clear c43b0
               try clear c47
               try clear c48
               try clear c48b0
               try clear q49
               try clear c50
               try clear c50b0
               try clear c51
               try clear c51b0
               try clear c51b1
               try clear q52
               try clear c53
               try clear c53b0
               try clear c54
               try clear c54b0
               try clear c54b1
               try clear c57
               try clear c57b0
               try clear c61
               try clear c62
               try clear c62b0
               try clear q63
               try clear c64
               try clear c64b0
               try clear p64
               try clear c65
               try clear c65b0
               try clear c65b1
               try clear c66
               try clear c66b0
               try clear c66b1
               try clear q67
               try clear c68
               try clear c68b0
               try clear c69
               try clear c69b0
               try clear c69b1
               try clear c70
               try clear c70b0
               try clear c70b1
               try clear c73
               try clear c73b0
               try clear c77
               try clear c78
               try clear c78b0
               try clear q79
               try clear c80
               try clear c80b0
               try clear c81
               try clear c81b0
               try clear c81b1
               try clear q82
               try clear c83
               try clear c83b0
               try clear c85
               try clear c85b0
               try clear c85b1
               try clear hcz14_0
               try clear hcz14_1
               try clear hcz16_0
               try clear hcz16_1
               try clear hcz18_0
               try clear hcz18_1
               try clear hcz40_0
               try clear hcz40_1
               try clear hcz42_0
               try clear hcz42_1
               try clear hcz44_0
               try clear hcz44_1
               try clear hcz45_0
               try clear hcz45_1
               try clear hcz55_0
               try clear hcz55_1
               try clear hcz58_0
               try clear hcz58_1
               try clear hcz59_0
               try clear hcz59_1
               try clear hcz71_0
               try clear hcz71_1
               try clear hcz74_0
               try clear hcz74_1
               try clear hcz75_0
               try clear hcz75_1
               try clear hcz86_0
               try clear hcz86_1
               try clear hfz14_0
               try clear hfz14_1
               try clear hfz16_0
               try clear hfz16_1
               try clear hfz18_0
               try clear hfz18_1
               try clear hfz40_0
               try clear hfz40_1
               try clear hfz42_0
               try clear hfz42_1
               try clear hfz44_0
               try clear hfz44_1
               try clear hfz45_0
               try clear hfz45_1
               try clear hfz55_0
               try clear hfz55_1
               try clear hfz58_0
               try clear hfz58_1
               try clear hfz59_0
               try clear hfz59_1
               try clear hfz71_0
               try clear hfz71_1
               try clear hfz74_0
               try clear hfz74_1
               try clear hfz75_0
               try clear hfz75_1
               try clear hfz86_0
               try clear hfz86_1
               try clear p2
               try clear p6
               try clear p64
               try clear q2
               try clear q22
               try clear q25
               try clear q28
               try clear q3
               try clear q31
               try clear q4
               try clear q49
               try clear q5
               try clear q52
               try clear q6
               try clear q63
               try clear q67
               obtain ⟨kq, HA, HJ75, HO_14, BK203, HB⟩ := hcut
               cases kq with
               | zero => exact absurd HA.out (by simp [tesseralaw05_HalfNumbers.j6])
               | succ kj75 =>
                have H := HA.out
                clear HA
                first | rw [tesseralaw05_HalfNumbers.j6] at H | simp only [tesseralaw05_HalfNumbers.j6] at H
                have HC87 := Aside0.mk H
                clear H
                go_upto_region 24 with (fail)
                repeat (go_quiet (fail); go_upto_region 24 with (fail))
                go_cut [212] (fun v212 wc => ∃ (kq : Nat) (x212_86 : Bool), v212 = .bool x212_86 ∧ Aside0 (tesseralaw05_HalfNumbers.j7 kq a0 a1 t212 t213 x212_86 a2_0 a2_1 = some r) ∧ Aside0 (kq ≤ kj75) ∧ Aside0 (Kd.R (Kd.int .i64) 3 wc w.heap.size (fun _ => True) v214 t212) ∧ Aside0 (wc.heap[gb203]? = some (.cells #[.int .i64 a2_0, .int .i64 a2_1] 51 (0, 0))) ∧ Aside0 (Below w.heap.size w wc))
                case first =>
                 have H := HC87.out
                 clear HC87
                 by_cases c88 : a2_0 < 0
                 ·rw [if_pos c88] at H
                  have c88b0 : decide (a2_0 < 0) = true := decide_eq_true c88
                  clear c88
                  (first | rw [c88b0] | (simp only [i64_w, i32_w]; rw [c88b0]) | skip)
                  as_aux_lemma =>
                   have H' := Aside0.mk H
                   clear H
                   have hcz89_0 : wc.cell? ⟨gb203, 0, none⟩ = some (.int .i64 a2_0) := (blk_cell BK203.out 0).trans rfl
                   have hcz89_1 : wc.cell? ⟨gb203, 1, none⟩ = some (.int .i64 a2_1) := (blk_cell BK203.out 1).trans rfl
                   have hfz89_0 := blk_frozen BK203.out 0
                   have hfz89_1 := blk_frozen BK203.out 1
                   go_wp2
                   repeat (go_quiet (fail); try go_wp2)
                   go_meet
                   case rel => exact ⟨_, (true), (by first | rfl | (simp; done) | (simp [*]; done)), H', ⟨by have := HJ10.out; have := HJ37.out; have := HJ45.out; have := HJ55.out; have := HJ59.out; have := HJ71.out; have := HJ75.out; first | omega | exact Nat.le_refl _⟩, ⟨by (with_reducible repeat (first | apply Kd.R_alloc | apply Kd.R_drewN | apply Kd.R_drew)); exact HO_14.out⟩, ⟨by (with_reducible repeat (first | refine blk_drewN ?_ _ | refine blk_drew ?_ | refine blk_alloc ?_ _)); exact BK203.out⟩, ⟨by repeat (first | (with_reducible first | exact HB.out | apply below_alloc | apply pw_below_drewN | apply below_drew1 | refine below_set ?_ GE203.out) | exact HB.out)⟩⟩
                 ·rw [if_neg c88] at H
                  have c88b0 : decide (a2_0 < 0) = false := decide_eq_false c88
                  clear c88
                  (first | rw [c88b0] | (simp only [i64_w, i32_w]; rw [c88b0]) | skip)
                  as_aux_lemma =>
                   have H' := Aside0.mk H
                   clear H
                   have hcz90_0 : wc.cell? ⟨gb203, 0, none⟩ = some (.int .i64 a2_0) := (blk_cell BK203.out 0).trans rfl
                   have hcz90_1 : wc.cell? ⟨gb203, 1, none⟩ = some (.int .i64 a2_1) := (blk_cell BK203.out 1).trans rfl
                   have hfz90_0 := blk_frozen BK203.out 0
                   have hfz90_1 := blk_frozen BK203.out 1
                   go_wp2
                   repeat (go_quiet (fail); try go_wp2)
                   go_meet
                   case rel => exact ⟨_, (decide (a2_0 ≥ a1)), (by first | rfl | (simp; done) | (simp [*]; done)), H', ⟨by have := HJ10.out; have := HJ37.out; have := HJ45.out; have := HJ55.out; have := HJ59.out; have := HJ71.out; have := HJ75.out; first | omega | exact Nat.le_refl _⟩, ⟨by (with_reducible repeat (first | apply Kd.R_alloc | apply Kd.R_drewN | apply Kd.R_drew)); exact HO_14.out⟩, ⟨by (with_reducible repeat (first | refine blk_drewN ?_ _ | refine blk_drew ?_ | refine blk_alloc ?_ _)); exact BK203.out⟩, ⟨by repeat (first | (with_reducible first | exact HB.out | apply below_alloc | apply pw_below_drewN | apply below_drew1 | refine below_set ?_ GE203.out) | exact HB.out)⟩⟩
                case rest =>
                 clear HC87
                 try clear c2
                 try clear p2
                 try clear q2
                 try clear c3
                 try clear q3
                 try clear c4
                 try clear q4
                 try clear c5
                 try clear q5
                 try clear c6
                 try clear p6
                 try clear q6
                 try clear c7
                 try clear q7
                 try clear c8
                 try clear q8
                 try clear c20
                 try clear c21
                 try clear c21b0
                 try clear q22
                 try clear c23
                 try clear c23b0
                 try clear c24
                 try clear c24b0
                 try clear q25
                 try clear c26
                 try clear c26b0
                 try clear c27
                 try clear c27b0
                 try clear q28
                 try clear c29
                 try clear c29b0
                 try clear c30
                 try clear c30b0
                 try clear q31
                 try clear c32
                 try clear c32b0
                 try clear c33
                 try clear c33b0
                 try clear c33b1
                 try clear c34
                 try clear c34b0
                 try clear c34b1
                 try clear c35
                 try clear c35b0
                 try clear c35b1
                 try clear c36
                 try clear c36b0
                 try clear c36b1
                 try clear c39
                 try clear c39b0
                 try clear c41
                 try clear c41b0
                 try clear c43
                 try clear c43b0
                 try clear c47
                 try clear c48
                 try clear c48b0
                 try clear q49
                 try clear c50
                 try clear c50b0
                 try clear c51
                 try clear c51b0
                 try clear c51b1
                 try clear q52
                 try clear c53
                 try clear c53b0
                 try clear c54
                 try clear c54b0
                 try clear c54b1
                 try clear c57
                 try clear c57b0
                 try clear c61
                 try clear c62
                 try clear c62b0
                 try clear q63
                 try clear c64
                 try clear c64b0
                 try clear p64
                 try clear c65
                 try clear c65b0
                 try clear c65b1
                 try clear c66
                 try clear c66b0
                 try clear c66b1
                 try clear q67
                 try clear c68
                 try clear c68b0
                 try clear c69
                 try clear c69b0
                 try clear c69b1
                 try clear c70
                 try clear c70b0
                 try clear c70b1
                 try clear c73
                 try clear c73b0
                 try clear c77
                 try clear c78
                 try clear c78b0
                 try clear q79
                 try clear c80
                 try clear c80b0
                 try clear c81
                 try clear c81b0
                 try clear c81b1
                 try clear q82
                 try clear c83
                 try clear c83b0
                 try clear c85
                 try clear c85b0
                 try clear c85b1
                 try clear c88
                 try clear c88b0
                 try clear hcz14_0
                 try clear hcz14_1
                 try clear hcz16_0
                 try clear hcz16_1
                 try clear hcz18_0
                 try clear hcz18_1
                 try clear hcz40_0
                 try clear hcz40_1
                 try clear hcz42_0
                 try clear hcz42_1
                 try clear hcz44_0
                 try clear hcz44_1
                 try clear hcz45_0
                 try clear hcz45_1
                 try clear hcz55_0
                 try clear hcz55_1
                 try clear hcz58_0
                 try clear hcz58_1
                 try clear hcz59_0
                 try clear hcz59_1
                 try clear hcz71_0
                 try clear hcz71_1
                 try clear hcz74_0
                 try clear hcz74_1
                 try clear hcz75_0
                 try clear hcz75_1
                 try clear hcz86_0
                 try clear hcz86_1
                 try clear hcz89_0
                 try clear hcz89_1
                 try clear hcz90_0
                 try clear hcz90_1
                 try clear hfz14_0
                 try clear hfz14_1
                 try clear hfz16_0
                 try clear hfz16_1
                 try clear hfz18_0
                 try clear hfz18_1
                 try clear hfz40_0
                 try clear hfz40_1
                 try clear hfz42_0
                 try clear hfz42_1
                 try clear hfz44_0
                 try clear hfz44_1
                 try clear hfz45_0
                 try clear hfz45_1
                 try clear hfz55_0
                 try clear hfz55_1
                 try clear hfz58_0
                 try clear hfz58_1
                 try clear hfz59_0
                 try clear hfz59_1
                 try clear hfz71_0
                 try clear hfz71_1
                 try clear hfz74_0
                 try clear hfz74_1
                 try clear hfz75_0
                 try clear hfz75_1
                 try clear hfz86_0
                 try clear hfz86_1
                 try clear hfz89_0
                 try clear hfz89_1
                 try clear hfz90_0
                 try clear hfz90_1
                 try clear p2
                 try clear p6
                 try clear p64
                 try clear q2
                 try clear q22
                 try clear q25
                 try clear q28
                 try clear q3
                 try clear q31
                 try clear q4
                 try clear q49
                 try clear q5
                 try clear q52
                 try clear q6
                 try clear q63
                 try clear q67
                 try clear q7
                 try clear q79
                 try clear q8
                 try clear q82
                 obtain ⟨kq, x212_86, rfl, HA, HJ86, HO_14, BK203, HB⟩ := hcut
                 cases kq with
                 | zero => exact absurd HA.out (by simp [tesseralaw05_HalfNumbers.j7])
                 | succ kj86 =>
                  have H := HA.out
                  clear HA
                  first | rw [tesseralaw05_HalfNumbers.j7] at H | simp only [tesseralaw05_HalfNumbers.j7] at H
                  by_cases c91 : x212_86 = true
                  ·subst c91
                   have H1 : (if (errOk tesseralaw05_HalfNumbers.L t213) = true then (if (errEq t213 12) = true then (some ((t212.length : Int) == 0)) else (some false)) else (none)) = some r := by rw [if_pos rfl] at H; exact H
                   clear H
                   have H := H1
                   clear H1
                   by_cases c92 : (errOk tesseralaw05_HalfNumbers.L t213) = true
                   ·rw [if_pos c92] at H
                    have c92b0 : (errOk tesseralaw05_HalfNumbers.L t213) = true := c92
                    clear c92
                    have hq93 := fun (W_ : World) (hb_ : SentW w W_) => Sent.eqlB HS.out t213 12 (by assumption) (by decide) W_ hb_.below
                    have hq93_ := fun (W_ : World) (hb_ : Aside0 (Below w.heap.size w W_)) (n_ : Nat) => Sent.eqlB HS.out t213 12 (by assumption) (by decide) (W_.drewN n_) (pw_below_drewN hb_.out n_)
                    by_cases c94 : (errEq t213 12) = true
                    ·rw [if_pos c94] at H
                     have c94b0 : (errEq t213 12) = true := c94
                     clear c94
                     as_aux_lemma =>
                      obtain rfl := Option.some.inj H
                      obtain ⟨Ao95, co95, eo95⟩ := Kd.R_slice HO_14.out
                      subst eo95
                      go_wp2
                      repeat (go_quiet (fail); try go_wp2)
                      go_ret
                      exact ⟨by first | rfl | (simp [errW_none, errW_some] <;> rfl) | (simp [*, errW_none, errW_some] <;> rfl), by repeat (first | (with_reducible first | exact HB.out | apply below_alloc | apply pw_below_drewN | apply below_drew1 | refine below_set ?_ GE203.out) | exact HB.out)⟩
                    ·rw [if_neg c94] at H
                     have c94b0 : (errEq t213 12) = false := by simpa using c94
                     clear c94
                     as_aux_lemma =>
                      exact absurd ((Option.some.inj H).trans HT.out) (by decide)
                   ·rw [if_neg c92] at H
                    exact absurd H (by simp)
                  ·replace c91 := Bool.eq_false_iff.mpr c91
                   subst c91
                   have H1 : (tesseralaw05_HalfNumbers.l0 kj86 a0 a1 t212 t213 (([] : List Int)) 0 a2_0 a2_1) = some r := by rw [if_neg (show ¬ (false = true) by decide)] at H; exact H
                   clear H
                   have H := H1
                   clear H1
                   obtain ⟨y218, hy218⟩ : ∃ y_ : List Int, y_ = (([] : List Int)) := ⟨_, rfl⟩
                   replace H : (tesseralaw05_HalfNumbers.l0 kj86 a0 a1 t212 t213 y218 0 a2_0 a2_1) = some r := by first | (rw [hy218]; with_reducible exact H) | (have H2_ := (Option.bind_some _ _).symm.trans H; rw [hy218]; with_reducible exact H2_) | (have H2_ := (Option.bind_some _ _).symm.trans H; with_reducible exact H2_) | with_reducible exact H | (rw [hy218]; exact H) | exact H
                   have Ny218 := Aside0.mk hy218
                   clear hy218
                   have H' := Aside0.mk H
                   clear H
                   go_wp2_with (first | ((with_reducible refine gate_dst (N := 221) rfl ?_); (try (refine gate_guard (by rfl) ?_; dsimp only)); refine Kd.R_lit (Kd.int .i64) _ 3 ?hg (N := 221) ?hd (xs := ([] : List Int)) (inner := []) (ok := fun _ => True) (okp := fun _ => True) ?hr ?hp (fun _ hk => hk) trivial (Below.refl _ _) (Nat.le_refl _) (by simp) ?_; (case hd => rfl); (case hg => rfl); (case hr => first | (go_simp; done) | (go_simp; rfl)); (case hp => exact (Reps.none _ _)); intro v219 w96 ho97 hb hg_ hnew_; clear hg_ hnew_; (first | rw [← Ny218.out] at ho97 | (simp only [Int.reduceToNat] at ho97; rw [← Ny218.out] at ho97)); have n0_ := Aside0.mk (Kd.R_elder' (by (with_reducible repeat (first | apply Kd.R_alloc | apply Kd.R_drewN | apply Kd.R_drew)); exact HO_14.out) (Kd.R_base ho97) hb); have n1_ := Aside0.mk (Kd.R_lower (Kd.R_new' ho97 (Kd.R_lt (by (with_reducible repeat (first | apply Kd.R_alloc | apply Kd.R_drewN | apply Kd.R_drew)); exact HO_14.out))) (below_size (by repeat (first | (with_reducible first | exact HB.out | apply below_alloc | apply pw_below_drewN | apply below_drew1 | refine below_set ?_ GE203.out) | exact HB.out)))); have n2_ := Aside0.mk (blk_below (g := gb203) (o := .cells #[.int .i64 a2_0, .int .i64 a2_1] 51 (0, 0)) (by (with_reducible repeat (first | refine blk_drewN ?_ _ | refine blk_drew ?_ | refine blk_alloc ?_ _)); exact BK203.out) hb); have n3_ := Aside0.mk (below_step (by repeat (first | (with_reducible first | exact HB.out | apply below_alloc | apply pw_below_drewN | apply below_drew1 | refine below_set ?_ GE203.out) | exact HB.out)) hb); clear HO_14; clear BK203; clear HB; have HO_14 := n0_; have HO220 := n1_; have BK203 := n2_; have HB := n3_; clear n0_ n1_ n2_ n3_; clear hb ho97))
                   repeat (go_quiet (first | ((with_reducible refine gate_dst (N := 221) rfl ?_); (try (refine gate_guard (by rfl) ?_; dsimp only)); refine Kd.R_lit (Kd.int .i64) _ 3 ?hg (N := 221) ?hd (xs := ([] : List Int)) (inner := []) (ok := fun _ => True) (okp := fun _ => True) ?hr ?hp (fun _ hk => hk) trivial (Below.refl _ _) (Nat.le_refl _) (by simp) ?_; (case hd => rfl); (case hg => rfl); (case hr => first | (go_simp; done) | (go_simp; rfl)); (case hp => exact (Reps.none _ _)); intro v219 w96 ho97 hb hg_ hnew_; clear hg_ hnew_; (first | rw [← Ny218.out] at ho97 | (simp only [Int.reduceToNat] at ho97; rw [← Ny218.out] at ho97)); have n0_ := Aside0.mk (Kd.R_elder' (by (with_reducible repeat (first | apply Kd.R_alloc | apply Kd.R_drewN | apply Kd.R_drew)); exact HO_14.out) (Kd.R_base ho97) hb); have n1_ := Aside0.mk (Kd.R_lower (Kd.R_new' ho97 (Kd.R_lt (by (with_reducible repeat (first | apply Kd.R_alloc | apply Kd.R_drewN | apply Kd.R_drew)); exact HO_14.out))) (below_size (by repeat (first | (with_reducible first | exact HB.out | apply below_alloc | apply pw_below_drewN | apply below_drew1 | refine below_set ?_ GE203.out) | exact HB.out)))); have n2_ := Aside0.mk (blk_below (g := gb203) (o := .cells #[.int .i64 a2_0, .int .i64 a2_1] 51 (0, 0)) (by (with_reducible repeat (first | refine blk_drewN ?_ _ | refine blk_drew ?_ | refine blk_alloc ?_ _)); exact BK203.out) hb); have n3_ := Aside0.mk (below_step (by repeat (first | (with_reducible first | exact HB.out | apply below_alloc | apply pw_below_drewN | apply below_drew1 | refine below_set ?_ GE203.out) | exact HB.out)) hb); clear HO_14; clear BK203; clear HB; have HO_14 := n0_; have HO220 := n1_; have BK203 := n2_; have HB := n3_; clear n0_ n1_ n2_ n3_; clear hb ho97)); try go_wp2_with (first | ((with_reducible refine gate_dst (N := 221) rfl ?_); (try (refine gate_guard (by rfl) ?_; dsimp only)); refine Kd.R_lit (Kd.int .i64) _ 3 ?hg (N := 221) ?hd (xs := ([] : List Int)) (inner := []) (ok := fun _ => True) (okp := fun _ => True) ?hr ?hp (fun _ hk => hk) trivial (Below.refl _ _) (Nat.le_refl _) (by simp) ?_; (case hd => rfl); (case hg => rfl); (case hr => first | (go_simp; done) | (go_simp; rfl)); (case hp => exact (Reps.none _ _)); intro v219 w96 ho97 hb hg_ hnew_; clear hg_ hnew_; (first | rw [← Ny218.out] at ho97 | (simp only [Int.reduceToNat] at ho97; rw [← Ny218.out] at ho97)); have n0_ := Aside0.mk (Kd.R_elder' (by (with_reducible repeat (first | apply Kd.R_alloc | apply Kd.R_drewN | apply Kd.R_drew)); exact HO_14.out) (Kd.R_base ho97) hb); have n1_ := Aside0.mk (Kd.R_lower (Kd.R_new' ho97 (Kd.R_lt (by (with_reducible repeat (first | apply Kd.R_alloc | apply Kd.R_drewN | apply Kd.R_drew)); exact HO_14.out))) (below_size (by repeat (first | (with_reducible first | exact HB.out | apply below_alloc | apply pw_below_drewN | apply below_drew1 | refine below_set ?_ GE203.out) | exact HB.out)))); have n2_ := Aside0.mk (blk_below (g := gb203) (o := .cells #[.int .i64 a2_0, .int .i64 a2_1] 51 (0, 0)) (by (with_reducible repeat (first | refine blk_drewN ?_ _ | refine blk_drew ?_ | refine blk_alloc ?_ _)); exact BK203.out) hb); have n3_ := Aside0.mk (below_step (by repeat (first | (with_reducible first | exact HB.out | apply below_alloc | apply pw_below_drewN | apply below_drew1 | refine below_set ?_ GE203.out) | exact HB.out)) hb); clear HO_14; clear BK203; clear HB; have HO_14 := n0_; have HO220 := n1_; have BK203 := n2_; have HB := n3_; clear n0_ n1_ n2_ n3_; clear hb ho97)))
                   go_loopg [16, 17] kj86 (fun kq v16 v17 w' => ∃ (x16_9 : List Int) (x17_9 : Int), v17 = .int .i64 x17_9 ∧ Aside0 (tesseralaw05_HalfNumbers.l0 kq a0 a1 t212 t213 x16_9 x17_9 a2_0 a2_1 = some r) ∧ Aside0 (kq ≤ kj86) ∧ Aside0 (Kd.R (Kd.int .i64) 3 w' w.heap.size (fun k_ => some k_ ≠ (v16 : Value).ownBlock) v214 t212) ∧ Aside0 (Kd.R (Kd.int .i64) 3 w' w.heap.size (fun k_ => some k_ ≠ (v214 : Value).ownBlock) v16 x16_9) ∧ Aside0 (w'.heap[gb203]? = some (.cells #[.int .i64 a2_0, .int .i64 a2_1] 51 (0, 0))) ∧ Aside0 (Below w.heap.size w w'))
                   case atStart => exact ⟨(y218), (0), (by first | rfl | (simp; done) | (simp [*]; done)), H', ⟨Nat.le_refl _⟩, ⟨by (with_reducible repeat (first | apply Kd.R_alloc | apply Kd.R_drewN | apply Kd.R_drew)); exact Kd.R_mono HO_14.out (fun _ hk => hk.2)⟩, ⟨by (with_reducible repeat (first | apply Kd.R_alloc | apply Kd.R_drewN | apply Kd.R_drew)); exact Kd.R_mono HO220.out (fun _ hk => hk.2)⟩, ⟨by (with_reducible repeat (first | refine blk_drewN ?_ _ | refine blk_drew ?_ | refine blk_alloc ?_ _)); exact BK203.out⟩, ⟨by repeat (first | (with_reducible first | exact HB.out | apply below_alloc | apply pw_below_drewN | apply below_drew1 | refine below_set ?_ GE203.out) | exact HB.out)⟩⟩
                   case round =>
                    clear H'
                    try clear c2
                    try clear p2
                    try clear q2
                    try clear c3
                    try clear q3
                    try clear c4
                    try clear q4
                    try clear c5
                    try clear q5
                    try clear c6
                    try clear p6
                    try clear q6
                    try clear c7
                    try clear q7
                    try clear c8
                    try clear q8
                    try clear c9
                    try clear q9
                    try clear c20
                    try clear c21
                    try clear c21b0
                    try clear q22
                    try clear c23
                    try clear c23b0
                    try clear c24
                    try clear c24b0
                    try clear q25
                    try clear c26
                    try clear c26b0
                    try clear c27
                    try clear c27b0
                    try clear q28
                    try clear c29
                    try clear c29b0
                    try clear c30
                    try clear c30b0
                    try clear q31
                    try clear c32
                    try clear c32b0
                    try clear c33
                    try clear c33b0
                    try clear c33b1
                    try clear c34
                    try clear c34b0
                    try clear c34b1
                    try clear c35
                    try clear c35b0
                    try clear c35b1
                    try clear c36
                    try clear c36b0
                    try clear c36b1
                    try clear c39
                    try clear c39b0
                    try clear c41
                    try clear c41b0
                    try clear c43
                    try clear c43b0
                    try clear c47
                    try clear c48
                    try clear c48b0
                    try clear q49
                    try clear c50
                    try clear c50b0
                    try clear c51
                    try clear c51b0
                    try clear c51b1
                    try clear q52
                    try clear c53
                    try clear c53b0
                    try clear c54
                    try clear c54b0
                    try clear c54b1
                    try clear c57
                    try clear c57b0
                    try clear c61
                    try clear c62
                    try clear c62b0
                    try clear q63
                    try clear c64
                    try clear c64b0
                    try clear p64
                    try clear c65
                    try clear c65b0
                    try clear c65b1
                    try clear c66
                    try clear c66b0
                    try clear c66b1
                    try clear q67
                    try clear c68
                    try clear c68b0
                    try clear c69
                    try clear c69b0
                    try clear c69b1
                    try clear c70
                    try clear c70b0
                    try clear c70b1
                    try clear c73
                    try clear c73b0
                    try clear c77
                    try clear c78
                    try clear c78b0
                    try clear q79
                    try clear c80
                    try clear c80b0
                    try clear c81
                    try clear c81b0
                    try clear c81b1
                    try clear q82
                    try clear c83
                    try clear c83b0
                    try clear c85
                    try clear c85b0
                    try clear c85b1
                    try clear c88
                    try clear c88b0
                    try clear c91
                    try clear c92
                    try clear c92b0
                    try clear q93
                    try clear c94
                    try clear c94b0
                    try clear hcz14_0
                    try clear hcz14_1
                    try clear hcz16_0
                    try clear hcz16_1
                    try clear hcz18_0
                    try clear hcz18_1
                    try clear hcz40_0
                    try clear hcz40_1
                    try clear hcz42_0
                    try clear hcz42_1
                    try clear hcz44_0
                    try clear hcz44_1
                    try clear hcz45_0
                    try clear hcz45_1
                    try clear hcz55_0
                    try clear hcz55_1
                    try clear hcz58_0
                    try clear hcz58_1
                    try clear hcz59_0
                    try clear hcz59_1
                    try clear hcz71_0
                    try clear hcz71_1
                    try clear hcz74_0
                    try clear hcz74_1
                    try clear hcz75_0
                    try clear hcz75_1
                    try clear hcz86_0
                    try clear hcz86_1
                    try clear hcz89_0
                    try clear hcz89_1
                    try clear hcz90_0
                    try clear hcz90_1
                    try clear hfz14_0
                    try clear hfz14_1
                    try clear hfz16_0
                    try clear hfz16_1
                    try clear hfz18_0
                    try clear hfz18_1
                    try clear hfz40_0
                    try clear hfz40_1
                    try clear hfz42_0
                    try clear hfz42_1
                    try clear hfz44_0
                    try clear hfz44_1
                    try clear hfz45_0
                    try clear hfz45_1
                    try clear hfz55_0
                    try clear hfz55_1
                    try clear hfz58_0
                    try clear hfz58_1
                    try clear hfz59_0
                    try clear hfz59_1
                    try clear hfz71_0
                    try clear hfz71_1
                    try clear hfz74_0
                    try clear hfz74_1
                    try clear hfz75_0
                    try clear hfz75_1
                    try clear hfz86_0
                    try clear hfz86_1
                    try clear hfz89_0
                    try clear hfz89_1
                    try clear hfz90_0
                    try clear hfz90_1
                    try clear p2
                    try clear p6
                    try clear p64
                    try clear q2
                    try clear q22
                    try clear q25
                    try clear q28
                    try clear q3
                    try clear q31
                    try clear q4
                    try clear q49
                    try clear q5
                    try clear q52
                    try clear q6
                    try clear q63
                    try clear q67
                    try clear q7
                    try clear q79
                    try clear q8
                    try clear q82
                    obtain ⟨x16_9, x17_9, rfl, HA, HK9, HO_14, HO_16, BK203, HB⟩ := hrel
                    cases gk with
                    | zero => exact absurd HA.out (by simp [tesseralaw05_HalfNumbers.l0])
                    | succ k9 =>
                     have H := HA.out
                     clear HA
                     first | rw [tesseralaw05_HalfNumbers.l0] at H | simp only [tesseralaw05_HalfNumbers.l0] at H
                     by_cases c98 : x17_9 < a0
                     ·rw [if_pos c98] at H
                      have c98b0 : decide (x17_9 < a0) = true := decide_eq_true c98
                      clear c98
                      replace H := Option.bind_eq_some_iff.mp H
                      obtain ⟨t221, A990, H⟩ := H
                      replace H : (if t221 = a2_0 then (if x16_9.length < 17592186044416 then (tesseralaw05_HalfNumbers.l0 k9 a0 a1 t212 t213 (x16_9 ++ [x17_9]) (wrap64 (x17_9 + 1)) a2_0 a2_1) else (none)) else (tesseralaw05_HalfNumbers.l0 k9 a0 a1 t212 t213 x16_9 (wrap64 (x17_9 + 1)) a2_0 a2_1)) = some r := H
                      have A99 := Aside0.mk A990
                      clear A990
                      by_cases c100 : t221 = a2_0
                      ·rw [if_pos c100] at H
                       have c100b0 : (t221 == a2_0) = true := beq_iff_eq.mpr c100
                       have c100b1 : (t221 != a2_0) = false := bne_eq_false_iff_eq.mpr c100
                       clear c100
                       by_cases c101 : x16_9.length < 17592186044416
                       ·rw [if_pos c101] at H
                        have LMc101 := Aside0.mk c101
                        clear c101
                        obtain ⟨y222, hy222⟩ : ∃ y_ : List Int, y_ = (x16_9 ++ [x17_9]) := ⟨_, rfl⟩
                        replace H : (tesseralaw05_HalfNumbers.l0 k9 a0 a1 t212 t213 y222 (wrap64 (x17_9 + 1)) a2_0 a2_1) = some r := by first | (rw [hy222]; with_reducible exact H) | (have H2_ := (Option.bind_some _ _).symm.trans H; rw [hy222]; with_reducible exact H2_) | (have H2_ := (Option.bind_some _ _).symm.trans H; with_reducible exact H2_) | with_reducible exact H | (rw [hy222]; exact H) | exact H
                        have Ny222 := Aside0.mk hy222
                        clear hy222
                        as_aux_lemma =>
                         have H' := Aside0.mk H
                         clear H
                         go_wp2_with (first | (go_at_call 26; (with_reducible refine (tesseraref05_Carrier.calls k9 a0 a1 x17_9 t221 _ A99.out).mono ?_); rintro e w' ⟨rfl, ⟨nd, rfl⟩⟩; (try first | exact ⟨rfl, _, World.drewN_drewN _ _ _⟩ | exact ⟨rfl, _, Eq.trans (World.drewN_drewN _ _ _) (congrArg (World.drewN _) (Nat.add_assoc _ _ _))⟩); have hcz102_0 : wr.cell? ⟨gb203, 0, none⟩ = some (.int .i64 a2_0) := (blk_cell BK203.out 0).trans rfl; have hcz102_1 : wr.cell? ⟨gb203, 1, none⟩ = some (.int .i64 a2_1) := (blk_cell BK203.out 1).trans rfl; have hfz102_0 := blk_frozen BK203.out 0; have hfz102_1 := blk_frozen BK203.out 1) | ((with_reducible refine gate_builtin (b := .append) (xs := #[.tmp 234, .tmp 236]) rfl ?_); (try (refine gate_guard (by rfl) ?_; dsimp only)); at_builtin; refine Kd.R_append (Kd.int .i64) (w0 := w) w.heap.size rfl (.tmp 234) (.tmp 236) 25 3 (.int .i64 0) 8 rfl Tryd.underlying25 info3 rfl (by decide) (by omega) u16 x16_9 x17_9 [.int .i64 x17_9] (fun k_ => some k_ ≠ (v214 : Value).ownBlock) (fun _ => False) rfl rfl ?aP (fun _ hk => hk.elim) ?aF ?aO ?aB ?aS ?aL ?_; (case aP => exact rfl); (case aB => exact (by repeat (first | (with_reducible first | exact HB.out | apply below_alloc | apply pw_below_drewN | apply below_drew1 | refine below_set ?_ GE203.out) | exact HB.out))); (case aF => exact (fun k_ hk => Kd.fresh' (Kd.R_lt (by (with_reducible repeat (first | apply Kd.R_alloc | apply Kd.R_drewN | apply Kd.R_drew)); exact HO_14.out)) k_ hk)); (case aO => exact (by (with_reducible repeat (first | apply Kd.R_alloc | apply Kd.R_drewN | apply Kd.R_drew)); exact HO_16.out)); (case aS => exact (below_size (by repeat (first | (with_reducible first | exact HB.out | apply below_alloc | apply pw_below_drewN | apply below_drew1 | refine below_set ?_ GE203.out) | exact HB.out)))); (case aL => have := LMc101.out; omega); intro v223 w103 ho hb hg hat; rw [← Ny222.out] at ho; have n0_ := Aside0.mk (Kd.R_after (ok := (fun _ => True)) (by (with_reducible repeat (first | apply Kd.R_alloc | apply Kd.R_drewN | apply Kd.R_drew)); exact Kd.R_mono HO_14.out (fun _ hk => ⟨trivial, hk⟩)) hg hat); have n1_ := Aside0.mk (blk_grown (g := gb203) (o := .cells #[.int .i64 a2_0, .int .i64 a2_1] 51 (0, 0)) (by (with_reducible repeat (first | refine blk_drewN ?_ _ | refine blk_drew ?_ | refine blk_alloc ?_ _)); exact BK203.out) hg (Kd.R_ne HO_16.out BK203.out (by decide))); have n2_ := Aside0.mk (hb); have n3_ := Aside0.mk (ho); clear HO_14; clear BK203; clear HB; clear HO_16; have HO_14 := n0_; have BK203 := n1_; have HB := n2_; have HO224 := n3_; clear n0_ n1_ n2_ n3_; clear ho hb hg hat))
                         repeat (go_quiet (first | (go_at_call 26; (with_reducible refine (tesseraref05_Carrier.calls k9 a0 a1 x17_9 t221 _ A99.out).mono ?_); rintro e w' ⟨rfl, ⟨nd, rfl⟩⟩; (try first | exact ⟨rfl, _, World.drewN_drewN _ _ _⟩ | exact ⟨rfl, _, Eq.trans (World.drewN_drewN _ _ _) (congrArg (World.drewN _) (Nat.add_assoc _ _ _))⟩); have hcz102_0 : wr.cell? ⟨gb203, 0, none⟩ = some (.int .i64 a2_0) := (blk_cell BK203.out 0).trans rfl; have hcz102_1 : wr.cell? ⟨gb203, 1, none⟩ = some (.int .i64 a2_1) := (blk_cell BK203.out 1).trans rfl; have hfz102_0 := blk_frozen BK203.out 0; have hfz102_1 := blk_frozen BK203.out 1) | ((with_reducible refine gate_builtin (b := .append) (xs := #[.tmp 234, .tmp 236]) rfl ?_); (try (refine gate_guard (by rfl) ?_; dsimp only)); at_builtin; refine Kd.R_append (Kd.int .i64) (w0 := w) w.heap.size rfl (.tmp 234) (.tmp 236) 25 3 (.int .i64 0) 8 rfl Tryd.underlying25 info3 rfl (by decide) (by omega) u16 x16_9 x17_9 [.int .i64 x17_9] (fun k_ => some k_ ≠ (v214 : Value).ownBlock) (fun _ => False) rfl rfl ?aP (fun _ hk => hk.elim) ?aF ?aO ?aB ?aS ?aL ?_; (case aP => exact rfl); (case aB => exact (by repeat (first | (with_reducible first | exact HB.out | apply below_alloc | apply pw_below_drewN | apply below_drew1 | refine below_set ?_ GE203.out) | exact HB.out))); (case aF => exact (fun k_ hk => Kd.fresh' (Kd.R_lt (by (with_reducible repeat (first | apply Kd.R_alloc | apply Kd.R_drewN | apply Kd.R_drew)); exact HO_14.out)) k_ hk)); (case aO => exact (by (with_reducible repeat (first | apply Kd.R_alloc | apply Kd.R_drewN | apply Kd.R_drew)); exact HO_16.out)); (case aS => exact (below_size (by repeat (first | (with_reducible first | exact HB.out | apply below_alloc | apply pw_below_drewN | apply below_drew1 | refine below_set ?_ GE203.out) | exact HB.out)))); (case aL => have := LMc101.out; omega); intro v223 w103 ho hb hg hat; rw [← Ny222.out] at ho; have n0_ := Aside0.mk (Kd.R_after (ok := (fun _ => True)) (by (with_reducible repeat (first | apply Kd.R_alloc | apply Kd.R_drewN | apply Kd.R_drew)); exact Kd.R_mono HO_14.out (fun _ hk => ⟨trivial, hk⟩)) hg hat); have n1_ := Aside0.mk (blk_grown (g := gb203) (o := .cells #[.int .i64 a2_0, .int .i64 a2_1] 51 (0, 0)) (by (with_reducible repeat (first | refine blk_drewN ?_ _ | refine blk_drew ?_ | refine blk_alloc ?_ _)); exact BK203.out) hg (Kd.R_ne HO_16.out BK203.out (by decide))); have n2_ := Aside0.mk (hb); have n3_ := Aside0.mk (ho); clear HO_14; clear BK203; clear HB; clear HO_16; have HO_14 := n0_; have BK203 := n1_; have HB := n2_; have HO224 := n3_; clear n0_ n1_ n2_ n3_; clear ho hb hg hat)); try go_wp2_with (first | (go_at_call 26; (with_reducible refine (tesseraref05_Carrier.calls k9 a0 a1 x17_9 t221 _ A99.out).mono ?_); rintro e w' ⟨rfl, ⟨nd, rfl⟩⟩; (try first | exact ⟨rfl, _, World.drewN_drewN _ _ _⟩ | exact ⟨rfl, _, Eq.trans (World.drewN_drewN _ _ _) (congrArg (World.drewN _) (Nat.add_assoc _ _ _))⟩); have hcz102_0 : wr.cell? ⟨gb203, 0, none⟩ = some (.int .i64 a2_0) := (blk_cell BK203.out 0).trans rfl; have hcz102_1 : wr.cell? ⟨gb203, 1, none⟩ = some (.int .i64 a2_1) := (blk_cell BK203.out 1).trans rfl; have hfz102_0 := blk_frozen BK203.out 0; have hfz102_1 := blk_frozen BK203.out 1) | ((with_reducible refine gate_builtin (b := .append) (xs := #[.tmp 234, .tmp 236]) rfl ?_); (try (refine gate_guard (by rfl) ?_; dsimp only)); at_builtin; refine Kd.R_append (Kd.int .i64) (w0 := w) w.heap.size rfl (.tmp 234) (.tmp 236) 25 3 (.int .i64 0) 8 rfl Tryd.underlying25 info3 rfl (by decide) (by omega) u16 x16_9 x17_9 [.int .i64 x17_9] (fun k_ => some k_ ≠ (v214 : Value).ownBlock) (fun _ => False) rfl rfl ?aP (fun _ hk => hk.elim) ?aF ?aO ?aB ?aS ?aL ?_; (case aP => exact rfl); (case aB => exact (by repeat (first | (with_reducible first | exact HB.out | apply below_alloc | apply pw_below_drewN | apply below_drew1 | refine below_set ?_ GE203.out) | exact HB.out))); (case aF => exact (fun k_ hk => Kd.fresh' (Kd.R_lt (by (with_reducible repeat (first | apply Kd.R_alloc | apply Kd.R_drewN | apply Kd.R_drew)); exact HO_14.out)) k_ hk)); (case aO => exact (by (with_reducible repeat (first | apply Kd.R_alloc | apply Kd.R_drewN | apply Kd.R_drew)); exact HO_16.out)); (case aS => exact (below_size (by repeat (first | (with_reducible first | exact HB.out | apply below_alloc | apply pw_below_drewN | apply below_drew1 | refine below_set ?_ GE203.out) | exact HB.out)))); (case aL => have := LMc101.out; omega); intro v223 w103 ho hb hg hat; rw [← Ny222.out] at ho; have n0_ := Aside0.mk (Kd.R_after (ok := (fun _ => True)) (by (with_reducible repeat (first | apply Kd.R_alloc | apply Kd.R_drewN | apply Kd.R_drew)); exact Kd.R_mono HO_14.out (fun _ hk => ⟨trivial, hk⟩)) hg hat); have n1_ := Aside0.mk (blk_grown (g := gb203) (o := .cells #[.int .i64 a2_0, .int .i64 a2_1] 51 (0, 0)) (by (with_reducible repeat (first | refine blk_drewN ?_ _ | refine blk_drew ?_ | refine blk_alloc ?_ _)); exact BK203.out) hg (Kd.R_ne HO_16.out BK203.out (by decide))); have n2_ := Aside0.mk (hb); have n3_ := Aside0.mk (ho); clear HO_14; clear BK203; clear HB; clear HO_16; have HO_14 := n0_; have BK203 := n1_; have HB := n2_; have HO224 := n3_; clear n0_ n1_ n2_ n3_; clear ho hb hg hat)))
                         go_roundg k9
                         case measure => have := HJ10.out; have := HJ37.out; have := HJ45.out; have := HJ55.out; have := HJ59.out; have := HJ71.out; have := HJ75.out; have := HJ86.out; have := HK9.out; omega
                         case rel => exact ⟨(y222), (wrap64 (x17_9 + 1)), (by first | rfl | (simp; done) | (simp [*]; done)), H', ⟨by have := HJ10.out; have := HJ37.out; have := HJ45.out; have := HJ55.out; have := HJ59.out; have := HJ71.out; have := HJ75.out; have := HJ86.out; have := HK9.out; omega⟩, ⟨by (with_reducible repeat (first | apply Kd.R_alloc | apply Kd.R_drewN | apply Kd.R_drew)); exact Kd.R_mono HO_14.out (fun _ hk => hk.2)⟩, ⟨by (with_reducible repeat (first | apply Kd.R_alloc | apply Kd.R_drewN | apply Kd.R_drew)); exact HO224.out⟩, ⟨by (with_reducible repeat (first | refine blk_drewN ?_ _ | refine blk_drew ?_ | refine blk_alloc ?_ _)); exact BK203.out⟩, ⟨by repeat (first | (with_reducible first | exact HB.out | apply below_alloc | apply pw_below_drewN | apply below_drew1 | refine below_set ?_ GE203.out) | exact HB.out)⟩⟩
                       ·rw [if_neg c101] at H
                        exact absurd H (by simp)
                      ·rw [if_neg c100] at H
                       have c100b0 : (t221 == a2_0) = false := beq_eq_false_iff_ne.mpr c100
                       have c100b1 : (t221 != a2_0) = true := bne_iff_ne.mpr c100
                       as_aux_lemma =>
                        have H' := Aside0.mk H
                        clear H
                        go_wp2_with (first | (go_at_call 26; (with_reducible refine (tesseraref05_Carrier.calls k9 a0 a1 x17_9 t221 _ A99.out).mono ?_); rintro e w' ⟨rfl, ⟨nd, rfl⟩⟩; (try first | exact ⟨rfl, _, World.drewN_drewN _ _ _⟩ | exact ⟨rfl, _, Eq.trans (World.drewN_drewN _ _ _) (congrArg (World.drewN _) (Nat.add_assoc _ _ _))⟩); have hcz104_0 : wr.cell? ⟨gb203, 0, none⟩ = some (.int .i64 a2_0) := (blk_cell BK203.out 0).trans rfl; have hcz104_1 : wr.cell? ⟨gb203, 1, none⟩ = some (.int .i64 a2_1) := (blk_cell BK203.out 1).trans rfl; have hfz104_0 := blk_frozen BK203.out 0; have hfz104_1 := blk_frozen BK203.out 1))
                        repeat (go_quiet (first | (go_at_call 26; (with_reducible refine (tesseraref05_Carrier.calls k9 a0 a1 x17_9 t221 _ A99.out).mono ?_); rintro e w' ⟨rfl, ⟨nd, rfl⟩⟩; (try first | exact ⟨rfl, _, World.drewN_drewN _ _ _⟩ | exact ⟨rfl, _, Eq.trans (World.drewN_drewN _ _ _) (congrArg (World.drewN _) (Nat.add_assoc _ _ _))⟩); have hcz104_0 : wr.cell? ⟨gb203, 0, none⟩ = some (.int .i64 a2_0) := (blk_cell BK203.out 0).trans rfl; have hcz104_1 : wr.cell? ⟨gb203, 1, none⟩ = some (.int .i64 a2_1) := (blk_cell BK203.out 1).trans rfl; have hfz104_0 := blk_frozen BK203.out 0; have hfz104_1 := blk_frozen BK203.out 1)); try go_wp2_with (first | (go_at_call 26; (with_reducible refine (tesseraref05_Carrier.calls k9 a0 a1 x17_9 t221 _ A99.out).mono ?_); rintro e w' ⟨rfl, ⟨nd, rfl⟩⟩; (try first | exact ⟨rfl, _, World.drewN_drewN _ _ _⟩ | exact ⟨rfl, _, Eq.trans (World.drewN_drewN _ _ _) (congrArg (World.drewN _) (Nat.add_assoc _ _ _))⟩); have hcz104_0 : wr.cell? ⟨gb203, 0, none⟩ = some (.int .i64 a2_0) := (blk_cell BK203.out 0).trans rfl; have hcz104_1 : wr.cell? ⟨gb203, 1, none⟩ = some (.int .i64 a2_1) := (blk_cell BK203.out 1).trans rfl; have hfz104_0 := blk_frozen BK203.out 0; have hfz104_1 := blk_frozen BK203.out 1)))
                        go_roundg k9
                        case measure => have := HJ10.out; have := HJ37.out; have := HJ45.out; have := HJ55.out; have := HJ59.out; have := HJ71.out; have := HJ75.out; have := HJ86.out; have := HK9.out; omega
                        case rel => exact ⟨(x16_9), (wrap64 (x17_9 + 1)), (by first | rfl | (simp; done) | (simp [*]; done)), H', ⟨by have := HJ10.out; have := HJ37.out; have := HJ45.out; have := HJ55.out; have := HJ59.out; have := HJ71.out; have := HJ75.out; have := HJ86.out; have := HK9.out; omega⟩, ⟨by (with_reducible repeat (first | apply Kd.R_alloc | apply Kd.R_drewN | apply Kd.R_drew)); exact HO_14.out⟩, ⟨by (with_reducible repeat (first | apply Kd.R_alloc | apply Kd.R_drewN | apply Kd.R_drew)); exact HO_16.out⟩, ⟨by (with_reducible repeat (first | refine blk_drewN ?_ _ | refine blk_drew ?_ | refine blk_alloc ?_ _)); exact BK203.out⟩, ⟨by repeat (first | (with_reducible first | exact HB.out | apply below_alloc | apply pw_below_drewN | apply below_drew1 | refine below_set ?_ GE203.out) | exact HB.out)⟩⟩
                     ·rw [if_neg c98] at H
                      have c98b0 : decide (x17_9 < a0) = false := decide_eq_false c98
                      clear c98
                      have hq105 := fun (W_ : World) => errW_eql_nil t213 W_
                      by_cases c106 : (isNil t213) = true
                      ·rw [if_pos c106] at H
                       have c106b0 : (isNil t213) = true := c106
                       clear c106
                       replace H := Option.bind_eq_some_iff.mp H
                       obtain ⟨t225, A1070, H⟩ := H
                       replace H : (some t225) = some r := H
                       have A107 := Aside0.mk A1070
                       clear A1070
                       as_aux_lemma =>
                        obtain rfl := Option.some.inj H
                        obtain ⟨Ao108, co108, eo108⟩ := Kd.R_slice HO_14.out
                        subst eo108
                        obtain ⟨Ao109, co109, eo109⟩ := Kd.R_slice HO_16.out
                        subst eo109
                        go_wp2_with (first | (go_at_call 27; (with_reducible refine (tesseranum_SameInts.calls k9 _ _ t212 _ _ x16_9 t225 _ ?side1 ?side2 ?side3 ?side4 A107.out).mono ?_); (case side1 => repeat (first | exact (Kd.R_reads' HO_14.out).2.2 | (with_reducible refine Kd.C_alloc ?_ _) | (with_reducible refine Kd.C_drewN ?_ _) | (with_reducible refine Kd.C_drew ?_))); (case side2 => exact (Kd.R_reads' HO_14.out).2.1); (case side3 => repeat (first | exact (Kd.R_reads' HO_16.out).2.2 | (with_reducible refine Kd.C_alloc ?_ _) | (with_reducible refine Kd.C_drewN ?_ _) | (with_reducible refine Kd.C_drew ?_))); (case side4 => exact (Kd.R_reads' HO_16.out).2.1); rintro e w' ⟨rfl, ⟨nd, rfl⟩⟩; (try first | exact ⟨rfl, _, World.drewN_drewN _ _ _⟩ | exact ⟨rfl, _, Eq.trans (World.drewN_drewN _ _ _) (congrArg (World.drewN _) (Nat.add_assoc _ _ _))⟩)))
                        repeat (go_quiet (first | (go_at_call 27; (with_reducible refine (tesseranum_SameInts.calls k9 _ _ t212 _ _ x16_9 t225 _ ?side1 ?side2 ?side3 ?side4 A107.out).mono ?_); (case side1 => repeat (first | exact (Kd.R_reads' HO_14.out).2.2 | (with_reducible refine Kd.C_alloc ?_ _) | (with_reducible refine Kd.C_drewN ?_ _) | (with_reducible refine Kd.C_drew ?_))); (case side2 => exact (Kd.R_reads' HO_14.out).2.1); (case side3 => repeat (first | exact (Kd.R_reads' HO_16.out).2.2 | (with_reducible refine Kd.C_alloc ?_ _) | (with_reducible refine Kd.C_drewN ?_ _) | (with_reducible refine Kd.C_drew ?_))); (case side4 => exact (Kd.R_reads' HO_16.out).2.1); rintro e w' ⟨rfl, ⟨nd, rfl⟩⟩; (try first | exact ⟨rfl, _, World.drewN_drewN _ _ _⟩ | exact ⟨rfl, _, Eq.trans (World.drewN_drewN _ _ _) (congrArg (World.drewN _) (Nat.add_assoc _ _ _))⟩))); try go_wp2_with (first | (go_at_call 27; (with_reducible refine (tesseranum_SameInts.calls k9 _ _ t212 _ _ x16_9 t225 _ ?side1 ?side2 ?side3 ?side4 A107.out).mono ?_); (case side1 => repeat (first | exact (Kd.R_reads' HO_14.out).2.2 | (with_reducible refine Kd.C_alloc ?_ _) | (with_reducible refine Kd.C_drewN ?_ _) | (with_reducible refine Kd.C_drew ?_))); (case side2 => exact (Kd.R_reads' HO_14.out).2.1); (case side3 => repeat (first | exact (Kd.R_reads' HO_16.out).2.2 | (with_reducible refine Kd.C_alloc ?_ _) | (with_reducible refine Kd.C_drewN ?_ _) | (with_reducible refine Kd.C_drew ?_))); (case side4 => exact (Kd.R_reads' HO_16.out).2.1); rintro e w' ⟨rfl, ⟨nd, rfl⟩⟩; (try first | exact ⟨rfl, _, World.drewN_drewN _ _ _⟩ | exact ⟨rfl, _, Eq.trans (World.drewN_drewN _ _ _) (congrArg (World.drewN _) (Nat.add_assoc _ _ _))⟩))))
                        go_ret
                        exact ⟨by first | rfl | (simp [errW_none, errW_some] <;> rfl) | (simp [*, errW_none, errW_some] <;> rfl), by repeat (first | (with_reducible first | exact HB.out | apply below_alloc | apply pw_below_drewN | apply below_drew1 | refine below_set ?_ GE203.out) | exact HB.out)⟩
                      ·rw [if_neg c106] at H
                       have c106b0 : (isNil t213) = false := by simpa using c106
                       clear c106
                       as_aux_lemma =>
                        exact absurd ((Option.some.inj H).trans HT.out) (by decide)
 ·replace c5 := Bool.eq_false_iff.mpr c5
  subst c5
  have H1 : (some false) = some r := by rw [if_neg (show ¬ (false = true) by decide)] at H; exact H
  clear H
  have H := H1
  clear H1
  as_aux_lemma =>
   exact absurd ((Option.some.inj H).trans HT.out) (by decide)

end Go.Proofs.YtnnondbimdmcaaaDoor.F
