/- What some functions come to, each a function of its own text; joined out of: F5, PureDamageOne, SenDamageOne. No conditions but those in each theorem. -/
import Derived.Test.YtndnedjclbigiaaDoorO1
import Derived.Test.YtndnedjclbigiaaDoorO5
import Derived.Test.YtndnedjclbigiaaDoorO3
import Derived.Test.YtndnedjclbigiaaDoorO6
import Derived.Test.YtndnedjclbigiaaDoorO11
import Derived.Test.YtndnedjclbigiaaDoorRows
import Derived.WalkKit
import Derived.ProofKit
import Derived.OpenShut
import Derived.ShutString
import Derived.ChangeOld
import Derived.Below
import Derived.SizedLaws
import Derived.LaidLaws
import Derived.LaidMore
import Derived.LaidHandle
import Derived.LaidOnce
import Derived.Stop.LaidErr
import Derived.SevenTiedAt
import Derived.JoinedOf
import Derived.RowKit
import Derived.RowKitTokens
import Derived.ChangeVars
import Derived.ChangeSame
import Derived.Lib.SmallJoins
namespace Go.Proofs.YtndnedjclbigiaaDoor.F
open Go.RowKit Go.Proofs.YtndnedjclbigiaaDoorW.PrintWords Go.Proofs.YtndnedjclbigiaaDoorW.PrintLast Go.Proofs.YtndnedjclbigiaaDoorW.PrintMore
attribute [local go_sem] max2_int min2_int max_two min_two max_three min_three max_four min_four   -- for this text's walks alone
set_option linter.unusedVariables false
set_option linter.unusedSimpArgs false
set_option linter.unusedSectionVars false
open Go.Proofs.YtndnedjclbigiaaDoor
variable [Errs]

/-! ### tesseralaw08_DamageOne: function 5 -/
def tesseralaw08_DamageOne.L : List Int := [1, 2, 4, 12]
def tesseralaw08_DamageOne.l0 : Nat → Int → Int → Int → Option (Bool)
  | 0, _, _, _ => none
  | k + 1, x0, x1, x5 => if x5 < (wrap64 (x0 + x1)) then ((some (([wrap64 (2 * x5), wrap64 ((wrap64 (2 * x5)) + 1)] : List Int) : List Int)).bind fun y276 => ((damage_Kind.f k x0 x1 y276).bind fun bt279 => ((damage_Gone.f k x0 x1 y276).bind fun bt281 => (if 1 ≤ (y276.length : Int) then ((damage_Kind.f k x0 x1 (y276.drop 1)).bind fun bt287 => (if x5 < x0 then (if ((isNil bt279.2) = true) then (if ((isNil bt281.2) = true) then (if ((isNil bt287.2) = true) then (if bt279.1 = 1 then (if bt281.1 = true then (some false) else (if bt287.1 = 2 then (tesseralaw08_DamageOne.l0 k x0 x1 (wrap64 (x5 + 1))) else (some false))) else (some false)) else (some false)) else (some false)) else (some false)) else (if ((isNil bt279.2) = true) then (if ((isNil bt281.2) = true) then (if ((isNil bt287.2) = true) then (if bt279.1 = 2 then (if bt281.1 = true then (some false) else (if bt287.1 = 2 then (tesseralaw08_DamageOne.l0 k x0 x1 (wrap64 (x5 + 1))) else (some false))) else (some false)) else (some false)) else (some false)) else (some false)))) else (none))))) else ((damage_Kind.f k x0 x1 ([] : List Int)).bind fun bt274 => (if (isNil bt274.2) = true then (some (bt274.1 == 0)) else (some false)))
def tesseralaw08_DamageOne.f (k : Nat) (a0 : Int) (a1 : Int) : Option (Bool) := (tesseralaw08_alive.f k).bind fun t272 => (if t272 = true then ((tesseraref04_Legal.f a0 a1).bind fun t273 => (if t273 = true then (tesseralaw08_DamageOne.l0 k a0 a1 0) else (some true))) else (some false))
theorem tesseralaw08_DamageOne.mono_l : ∀ k, (∀ y0 y1 y2, LeO (tesseralaw08_DamageOne.l0 k y0 y1 y2) (tesseralaw08_DamageOne.l0 (k + 1) y0 y1 y2))
  | 0 => fun _ _ _ r h => by simp [tesseralaw08_DamageOne.l0] at h
  | k + 1 => by
    have ih0 := tesseralaw08_DamageOne.mono_l k
    · intro y0 y1 y2
      unfold tesseralaw08_DamageOne.l0
      repeat' first
      | (with_reducible exact ih0 _ _ _)
      | (with_reducible exact damage_Gone.mono _ _ _ _)
      | (with_reducible exact damage_Kind.mono _ _ _ _)
      | (with_reducible exact tesseralaw08_alive.mono _)
      | (with_reducible exact LeO.refl _)
      | (with_reducible exact LeO.none _)
      | (with_reducible refine LeO.ite ?_ ?_)
      | (with_reducible refine LeO.bind ?_ (fun _ => ?_))
      | exact ih0 _ _ _
      | exact damage_Gone.mono _ _ _ _
      | exact damage_Kind.mono _ _ _ _
      | exact tesseralaw08_alive.mono _
      | exact LeO.none _
      | refine LeO.ite ?_ ?_
      | refine LeO.bind ?_ (fun _ => ?_)
theorem tesseralaw08_DamageOne.mono : ∀ a0 a1 k, LeO (tesseralaw08_DamageOne.f k a0 a1) (tesseralaw08_DamageOne.f (k + 1) a0 a1) := by
  intro a0 a1 k
  have ih0 := tesseralaw08_DamageOne.mono_l k
  unfold tesseralaw08_DamageOne.f
  repeat' first
      | (with_reducible exact ih0 _ _ _)
      | (with_reducible exact damage_Gone.mono _ _ _ _)
      | (with_reducible exact damage_Kind.mono _ _ _ _)
      | (with_reducible exact tesseralaw08_alive.mono _)
      | (with_reducible exact LeO.refl _)
      | (with_reducible exact LeO.none _)
      | (with_reducible refine LeO.ite ?_ ?_)
      | (with_reducible refine LeO.bind ?_ (fun _ => ?_))
      | exact ih0 _ _ _
      | exact damage_Gone.mono _ _ _ _
      | exact damage_Kind.mono _ _ _ _
      | exact tesseralaw08_alive.mono _
      | exact LeO.none _
      | refine LeO.ite ?_ ?_
      | refine LeO.bind ?_ (fun _ => ?_)
set_option maxHeartbeats 8000000 in
set_option maxRecDepth 100000 in
theorem tesseralaw08_DamageOne.calls (k : Nat) (a0 : Int) (a1 : Int) (r : Bool) (w : World) (h : tesseralaw08_DamageOne.f k a0 a1 = some r) (hT : r = true) (hS : Sent tesseralaw08_DamageOne.L w) :
    Calls Tryd.prog 5 #[.int .i64 a0, .int .i64 a1] w fun e w' => e = .returned (.bool r) ∧ Below w.heap.size w w' := by
  have hu30 := Tryd.underlying30
  have HB := Aside0.mk (Below.refl w.heap.size w)
  have HT := Aside0.mk hT
  clear hT
  have HS := Aside0.mk hS
  clear hS
  have H : ((tesseralaw08_alive.f k).bind fun t272 => (if t272 = true then ((tesseraref04_Legal.f a0 a1).bind fun t273 => (if t273 = true then (tesseralaw08_DamageOne.l0 k a0 a1 0) else (some true))) else (some false))) = some r := h
  clear h
  replace H := Option.bind_eq_some_iff.mp H
  obtain ⟨t272, A30, H⟩ := H
  replace H : (if t272 = true then ((tesseraref04_Legal.f a0 a1).bind fun t273 => (if t273 = true then (tesseralaw08_DamageOne.l0 k a0 a1 0) else (some true))) else (some false)) = some r := H
  have A3 := Aside0.mk A30
  clear A30
  by_cases c4 : t272 = true
  · subst c4
    have H1 : ((tesseraref04_Legal.f a0 a1).bind fun t273 => (if t273 = true then (tesseralaw08_DamageOne.l0 k a0 a1 0) else (some true))) = some r := by rw [if_pos rfl] at H; exact H
    clear H
    have H := H1
    clear H1
    replace H := Option.bind_eq_some_iff.mp H
    obtain ⟨t273, A50, H⟩ := H
    replace H : (if t273 = true then (tesseralaw08_DamageOne.l0 k a0 a1 0) else (some true)) = some r := H
    have A5 := Aside0.mk A50
    clear A50
    by_cases c6 : t273 = true
    · subst c6
      have H1 : (tesseralaw08_DamageOne.l0 k a0 a1 0) = some r := by rw [if_pos rfl] at H; exact H
      clear H
      have H := H1
      clear H1
      have H' := Aside0.mk H
      clear H
      go_enter Tryd.func5, Tryd.ntmps5
      go_wp2_with (first | ((with_reducible refine gate_callee (f := 6) rfl ?_); refine goesL_ (some 16) rfl rfl Tryd.func6 (by kernel_rfl) rfl #[] rfl (by (try simp only [List.map_toArray, List.map_cons, List.map_nil]); first | done | rfl | (simp only [List.length_drop, List.length_take]; rfl)) ?_; (with_reducible refine (tesseralaw08_alive.calls k  true _ A3.out (Sent.sub (show ∀ c, c ∈ tesseralaw08_alive.L → c ∈ tesseralaw08_DamageOne.L by decide) (Sent.below HS.out (by repeat (first | (with_reducible first | exact HB.out | apply below_alloc | apply pw_below_drewN | apply below_drew1) | exact HB.out))))).mono ?_); rintro e w7 ⟨rfl, hb⟩; refine ⟨_, rfl, ?_⟩; have n0_ := Aside0.mk (below_step (by repeat (first | (with_reducible first | exact HB.out | apply below_alloc | apply pw_below_drewN | apply below_drew1) | exact HB.out)) hb); clear HB; have HB := n0_; clear n0_; (try clear hb); (try clear hb2); (try clear hk); (try clear hi)) | ((with_reducible refine gate_callee (f := 7) rfl ?_); refine goesL_ (some 20) rfl rfl Tryd.func7 (by kernel_rfl) rfl #[.int .i64 a0, .int .i64 a1] rfl (by (try simp only [List.map_toArray, List.map_cons, List.map_nil]); first | done | rfl | (simp only [List.length_drop, List.length_take]; rfl)) ?_; (with_reducible refine (tesseraref04_Legal.calls a0 a1 true _ A5.out).mono ?_); rintro e w' ⟨rfl, ⟨nd, rfl⟩⟩; refine ⟨_, rfl, ?_⟩))
      go_loopg [5] k (fun kq v5 w' => ∃ (x5_1 : Int), v5 = .int .i64 x5_1 ∧ Aside0 (tesseralaw08_DamageOne.l0 kq a0 a1 x5_1 = some r) ∧ Aside0 (kq ≤ k) ∧ Aside0 (Below w.heap.size w w'))
      case atStart => exact ⟨(0), (by first | rfl | (simp; done) | (simp [*]; done)), H', ⟨Nat.le_refl _⟩, ⟨by repeat (first | (with_reducible first | exact HB.out | apply below_alloc | apply pw_below_drewN | apply below_drew1) | exact HB.out)⟩⟩
      case round =>
        clear H'
        try clear p2
        try clear c4
        try clear c5
        try clear c6
        try clear c7
        obtain ⟨x5_1, rfl, HA, HK1, HB⟩ := hrel
        cases gk with
        | zero => exact absurd HA.out (by simp [tesseralaw08_DamageOne.l0])
        | succ k1 =>
          have H := HA.out
          clear HA
          first | rw [tesseralaw08_DamageOne.l0] at H | simp only [tesseralaw08_DamageOne.l0] at H
          by_cases c8 : x5_1 < (wrap64 (a0 + a1))
          · rw [if_pos c8] at H
            have c8b0 : decide (x5_1 < (wrap64 (a0 + a1))) = true := decide_eq_true c8
            clear c8
            obtain ⟨y276, hy276⟩ : ∃ y_ : List Int, y_ = (([wrap64 (2 * x5_1), wrap64 ((wrap64 (2 * x5_1)) + 1)] : List Int)) := ⟨_, rfl⟩
            replace H : ((damage_Kind.f k1 a0 a1 y276).bind fun bt279 => ((damage_Gone.f k1 a0 a1 y276).bind fun bt281 => (if 1 ≤ (y276.length : Int) then ((damage_Kind.f k1 a0 a1 (y276.drop 1)).bind fun bt287 => (if x5_1 < a0 then (if ((isNil bt279.2) = true) then (if ((isNil bt281.2) = true) then (if ((isNil bt287.2) = true) then (if bt279.1 = 1 then (if bt281.1 = true then (some false) else (if bt287.1 = 2 then (tesseralaw08_DamageOne.l0 k1 a0 a1 (wrap64 (x5_1 + 1))) else (some false))) else (some false)) else (some false)) else (some false)) else (some false)) else (if ((isNil bt279.2) = true) then (if ((isNil bt281.2) = true) then (if ((isNil bt287.2) = true) then (if bt279.1 = 2 then (if bt281.1 = true then (some false) else (if bt287.1 = 2 then (tesseralaw08_DamageOne.l0 k1 a0 a1 (wrap64 (x5_1 + 1))) else (some false))) else (some false)) else (some false)) else (some false)) else (some false)))) else (none)))) = some r := by first | (rw [hy276]; with_reducible exact H) | (have H2_ := (Option.bind_some _ _).symm.trans H; rw [hy276]; with_reducible exact H2_) | (have H2_ := (Option.bind_some _ _).symm.trans H; with_reducible exact H2_) | with_reducible exact H | (rw [hy276]; exact H) | exact H
            have Ny276 := Aside0.mk hy276
            clear hy276
            replace H := Option.bind_eq_some_iff.mp H
            obtain ⟨⟨t279, t280⟩, A90, H⟩ := H
            replace H : ((damage_Gone.f k1 a0 a1 y276).bind fun bt281 => (if 1 ≤ (y276.length : Int) then ((damage_Kind.f k1 a0 a1 (y276.drop 1)).bind fun bt287 => (if x5_1 < a0 then (if ((isNil t280) = true) then (if ((isNil bt281.2) = true) then (if ((isNil bt287.2) = true) then (if t279 = 1 then (if bt281.1 = true then (some false) else (if bt287.1 = 2 then (tesseralaw08_DamageOne.l0 k1 a0 a1 (wrap64 (x5_1 + 1))) else (some false))) else (some false)) else (some false)) else (some false)) else (some false)) else (if ((isNil t280) = true) then (if ((isNil bt281.2) = true) then (if ((isNil bt287.2) = true) then (if t279 = 2 then (if bt281.1 = true then (some false) else (if bt287.1 = 2 then (tesseralaw08_DamageOne.l0 k1 a0 a1 (wrap64 (x5_1 + 1))) else (some false))) else (some false)) else (some false)) else (some false)) else (some false)))) else (none))) = some r := H
            have A9 := Aside0.mk A90
            clear A90
            replace H := Option.bind_eq_some_iff.mp H
            obtain ⟨⟨t281, t282⟩, A100, H⟩ := H
            replace H : (if 1 ≤ (y276.length : Int) then ((damage_Kind.f k1 a0 a1 (y276.drop 1)).bind fun bt287 => (if x5_1 < a0 then (if ((isNil t280) = true) then (if ((isNil t282) = true) then (if ((isNil bt287.2) = true) then (if t279 = 1 then (if t281 = true then (some false) else (if bt287.1 = 2 then (tesseralaw08_DamageOne.l0 k1 a0 a1 (wrap64 (x5_1 + 1))) else (some false))) else (some false)) else (some false)) else (some false)) else (some false)) else (if ((isNil t280) = true) then (if ((isNil t282) = true) then (if ((isNil bt287.2) = true) then (if t279 = 2 then (if t281 = true then (some false) else (if bt287.1 = 2 then (tesseralaw08_DamageOne.l0 k1 a0 a1 (wrap64 (x5_1 + 1))) else (some false))) else (some false)) else (some false)) else (some false)) else (some false)))) else (none)) = some r := H
            have A10 := Aside0.mk A100
            clear A100
            by_cases c11 : 1 ≤ (y276.length : Int)
            · rw [if_pos c11] at H
              have c11b0 := eq_true c11
              have c11b1 : decide (1 ≤ (y276.length : Int)) = true := decide_eq_true c11
              clear c11
              obtain ⟨y283, hy283⟩ : ∃ y_ : List Int, y_ = (y276.drop 1) := ⟨_, rfl⟩
              replace H : ((damage_Kind.f k1 a0 a1 y283).bind fun bt287 => (if x5_1 < a0 then (if ((isNil t280) = true) then (if ((isNil t282) = true) then (if ((isNil bt287.2) = true) then (if t279 = 1 then (if t281 = true then (some false) else (if bt287.1 = 2 then (tesseralaw08_DamageOne.l0 k1 a0 a1 (wrap64 (x5_1 + 1))) else (some false))) else (some false)) else (some false)) else (some false)) else (some false)) else (if ((isNil t280) = true) then (if ((isNil t282) = true) then (if ((isNil bt287.2) = true) then (if t279 = 2 then (if t281 = true then (some false) else (if bt287.1 = 2 then (tesseralaw08_DamageOne.l0 k1 a0 a1 (wrap64 (x5_1 + 1))) else (some false))) else (some false)) else (some false)) else (some false)) else (some false)))) = some r := by first | (rw [hy283]; with_reducible exact H) | (have H2_ := (Option.bind_some _ _).symm.trans H; rw [hy283]; with_reducible exact H2_) | (have H2_ := (Option.bind_some _ _).symm.trans H; with_reducible exact H2_) | with_reducible exact H | (rw [hy283]; exact H) | exact H
              have Ny283 := Aside0.mk hy283
              clear hy283
              replace H := Option.bind_eq_some_iff.mp H
              obtain ⟨⟨t287, t288⟩, A120, H⟩ := H
              replace H : (if x5_1 < a0 then (if ((isNil t280) = true) then (if ((isNil t282) = true) then (if ((isNil t288) = true) then (if t279 = 1 then (if t281 = true then (some false) else (if t287 = 2 then (tesseralaw08_DamageOne.l0 k1 a0 a1 (wrap64 (x5_1 + 1))) else (some false))) else (some false)) else (some false)) else (some false)) else (some false)) else (if ((isNil t280) = true) then (if ((isNil t282) = true) then (if ((isNil t288) = true) then (if t279 = 2 then (if t281 = true then (some false) else (if t287 = 2 then (tesseralaw08_DamageOne.l0 k1 a0 a1 (wrap64 (x5_1 + 1))) else (some false))) else (some false)) else (some false)) else (some false)) else (some false))) = some r := H
              have A12 := Aside0.mk A120
              clear A120
              by_cases c13 : x5_1 < a0
              · rw [if_pos c13] at H
                have c13b0 : decide (x5_1 < a0) = true := decide_eq_true c13
                clear c13
                have hq14 := fun (W_ : World) => errW_neq_nil t280 W_
                by_cases c15 : ((isNil t280) = true)
                · rw [if_pos c15] at H
                  have c15b0 : (isNil t280) = true := c15
                  clear c15
                  have hq16 := fun (W_ : World) => errW_neq_nil t282 W_
                  by_cases c17 : ((isNil t282) = true)
                  · rw [if_pos c17] at H
                    have c17b0 : (isNil t282) = true := c17
                    clear c17
                    have hq18 := fun (W_ : World) => errW_neq_nil t288 W_
                    by_cases c19 : ((isNil t288) = true)
                    · rw [if_pos c19] at H
                      have c19b0 : (isNil t288) = true := c19
                      clear c19
                      by_cases c20 : t279 = 1
                      · rw [if_pos c20] at H
                        have c20b0 : (t279 == 1) = true := beq_iff_eq.mpr c20
                        have c20b1 : (t279 != 1) = false := bne_eq_false_iff_eq.mpr c20
                        clear c20
                        by_cases c21 : t281 = true
                        · subst c21
                          have H1 : (some false) = some r := by rw [if_pos rfl] at H; exact H
                          clear H
                          have H := H1
                          clear H1
                          exact absurd ((Option.some.inj H).trans HT.out) (by decide)
                        · replace c21 := Bool.eq_false_iff.mpr c21
                          subst c21
                          have H1 : (if t287 = 2 then (tesseralaw08_DamageOne.l0 k1 a0 a1 (wrap64 (x5_1 + 1))) else (some false)) = some r := by rw [if_neg (show ¬ (false = true) by decide)] at H; exact H
                          clear H
                          have H := H1
                          clear H1
                          by_cases c22 : t287 = 2
                          · rw [if_pos c22] at H
                            have c22b0 : (t287 == 2) = true := beq_iff_eq.mpr c22
                            have c22b1 : (t287 != 2) = false := bne_eq_false_iff_eq.mpr c22
                            clear c22
                            have H' := Aside0.mk H
                            clear H
                            go_wp2_with (first | ((with_reducible refine gate_dst (N := 34) rfl ?_); refine Kd.R_lit (Kd.int .i64) _ 3 ?hg (N := 34) ?hd (xs := ([wrap64 (2 * x5_1), wrap64 ((wrap64 (2 * x5_1)) + 1)] : List Int)) (inner := [.int .i64 (wrap64 (2 * x5_1)), .int .i64 (wrap64 ((wrap64 (2 * x5_1)) + 1))]) (ok := fun _ => True) (okp := fun _ => True) ?hr ?hp (fun _ hk => hk) trivial (Below.refl _ _) (Nat.le_refl _) (by simp) ?_; (case hd => rfl); (case hg => rfl); (case hr => first | (go_simp; done) | (go_simp; rfl)); (case hp => exact (Reps.one (show Kd.M (Kd.int .i64) _ _ _ (wrap64 (2 * x5_1)) [.int .i64 (wrap64 (2 * x5_1))] from rfl) (Reps.one (show Kd.M (Kd.int .i64) _ _ _ (wrap64 ((wrap64 (2 * x5_1)) + 1)) [.int .i64 (wrap64 ((wrap64 (2 * x5_1)) + 1))] from rfl) (Reps.none _ _)))); intro v277 w23 ho24 hb hg_ hnew_; clear hg_ hnew_; (first | rw [← Ny276.out] at ho24 | (simp only [Int.reduceToNat] at ho24; rw [← Ny276.out] at ho24)); have n0_ := Aside0.mk (Kd.R_lower ho24 (below_size (by repeat (first | (with_reducible first | exact HB.out | apply below_alloc | apply pw_below_drewN | apply below_drew1) | exact HB.out)))); have n1_ := Aside0.mk (below_step (by repeat (first | (with_reducible first | exact HB.out | apply below_alloc | apply pw_below_drewN | apply below_drew1) | exact HB.out)) hb); clear HB; have HO278 := n0_; have HB := n1_; clear n0_ n1_; clear hb ho24; obtain ⟨Ao25, co25, eo25⟩ := Kd.R_slice HO278.out; subst eo25) | ((with_reducible refine gate_callee (f := 14) rfl ?_); refine goesL_ (some 39) rfl rfl Tryd.func14 (by kernel_rfl) rfl #[.int .i64 a0, .int .i64 a1, .slice Ao25 y276.length co25] rfl (by (try simp only [List.map_toArray, List.map_cons, List.map_nil]); first | done | rfl | (simp only [List.length_drop, List.length_take]; rfl)) ?_; (with_reducible refine (damage_Kind.calls k1 a0 a1 _ _ y276 t279 t280 _ ?side1 ?side2 A9.out (Sent.sub (show ∀ c, c ∈ damage_Kind.L → c ∈ tesseralaw08_DamageOne.L by decide) (Sent.below HS.out (by repeat (first | (with_reducible first | exact HB.out | apply below_alloc | apply pw_below_drewN | apply below_drew1) | exact HB.out))))).mono ?_); (case side1 => repeat (first | exact (Kd.R_reads' HO278.out).2.2 | (with_reducible refine Kd.C_alloc ?_ _) | (with_reducible refine Kd.C_drewN ?_ _) | (with_reducible refine Kd.C_drew ?_))); (case side2 => exact (Kd.R_reads' HO278.out).2.1); rintro e w26 ⟨rfl, hb⟩; refine ⟨_, rfl, ?_⟩; have n0_ := Aside0.mk (Kd.R_below (by (with_reducible repeat (first | apply Kd.R_alloc | apply Kd.R_drewN | apply Kd.R_drew)); exact HO278.out) hb); have n1_ := Aside0.mk (below_step (by repeat (first | (with_reducible first | exact HB.out | apply below_alloc | apply pw_below_drewN | apply below_drew1) | exact HB.out)) hb); clear HO278; clear HB; have HO278 := n0_; have HB := n1_; clear n0_ n1_; (try clear hb); (try clear hb2); (try clear hk); (try clear hi); (try simp only [errW_none, errW_some])) | ((with_reducible refine gate_callee (f := 10) rfl ?_); refine goesL_ (some 46) rfl rfl Tryd.func10 (by kernel_rfl) rfl #[.int .i64 a0, .int .i64 a1, .slice Ao25 y276.length co25] rfl (by (try simp only [List.map_toArray, List.map_cons, List.map_nil]); first | done | rfl | (simp only [List.length_drop, List.length_take]; rfl)) ?_; (with_reducible refine (damage_Gone.calls k1 a0 a1 _ _ y276 false t282 _ ?side1 ?side2 A10.out (Sent.sub (show ∀ c, c ∈ damage_Gone.L → c ∈ tesseralaw08_DamageOne.L by decide) (Sent.below HS.out (by repeat (first | (with_reducible first | exact HB.out | apply below_alloc | apply pw_below_drewN | apply below_drew1) | exact HB.out))))).mono ?_); (case side1 => repeat (first | exact (Kd.R_reads' HO278.out).2.2 | (with_reducible refine Kd.C_alloc ?_ _) | (with_reducible refine Kd.C_drewN ?_ _) | (with_reducible refine Kd.C_drew ?_))); (case side2 => exact (Kd.R_reads' HO278.out).2.1); rintro e w27 ⟨rfl, hb⟩; refine ⟨_, rfl, ?_⟩; have n0_ := Aside0.mk (Kd.R_below (by (with_reducible repeat (first | apply Kd.R_alloc | apply Kd.R_drewN | apply Kd.R_drew)); exact HO278.out) hb); have n1_ := Aside0.mk (below_step (by repeat (first | (with_reducible first | exact HB.out | apply below_alloc | apply pw_below_drewN | apply below_drew1) | exact HB.out)) hb); clear HO278; clear HB; have HO278 := n0_; have HB := n1_; clear n0_ n1_; (try clear hb); (try clear hb2); (try clear hk); (try clear hi); (try simp only [errW_none, errW_some]); have q28 : (1 : Int) ≤ ((y276.length : Int) : Int) := of_decide_eq_true (by first | (with_reducible assumption) | assumption); obtain ⟨i028, hi028, _, hsz28, _⟩ := info_parts info3; have hroom28 : y276.length ≤ co25 := (Kd.R_reads' HO278.out).2.1; have hC28 : Kd.C (Kd.int .i64) _ Ao25 y276.length y276 := (Kd.R_reads' HO278.out).2.2; have hcut28 := cut_from (P := Tryd.prog) 22 3 .i64 Tryd.underlying22 hi028 1 hsz28 Ao25 y276.length co25 1 (by omega) q28; have hr28 := Kd.C_drop (m := (1 : Int).toNat) (c := co25) hC28 (by omega) hroom28; obtain ⟨A28, hA28⟩ : ∃ A1, A1 = (if co25 = (1 : Int).toNat then Ao25 else (Ao25 : Option Addr).map (·.add ((1 : Int).toNat * 1))) := ⟨_, rfl⟩; obtain ⟨c28, hc28⟩ : ∃ c1, c1 = co25 - (1 : Int).toNat := ⟨_, rfl⟩; have hy28 : y283.length = y276.length - (1 : Int).toNat := (by rw [Ny283.out, List.length_drop] <;> omega); rw [show (y276).drop (1 : Int).toNat = y283 from Ny283.out.symm] at hr28; replace hr28 : Kd.C (Kd.int .i64) _ A28 y283.length y283 := (by rw [hA28]; exact hr28); rw [← hy28, ← hA28, ← hc28] at hcut28; have HR286 := Aside0.mk hr28; have HC286 := Aside0.mk (show y283.length ≤ c28 from by rw [hy28, hc28]; exact Nat.sub_le_sub_right hroom28 _); clear hr28 hC28 hroom28 hi028 hsz28 hc28; have KY28 := Aside0.mk hy28; have KA28 := Aside0.mk hA28; clear hy28 hA28; have KL28 := Aside0.mk (show 1 ≤ y276.length from by omega); replace q28 := eq_true q28) | ((with_reducible refine gate_callee (f := 14) rfl ?_); refine goesL_ (some 54) rfl rfl Tryd.func14 (by kernel_rfl) rfl #[.int .i64 a0, .int .i64 a1, .slice A28 y283.length c28] rfl (by (try simp only [List.map_toArray, List.map_cons, List.map_nil]); first | done | rfl | (simp only [List.length_drop, List.length_take]; rfl)) ?_; (with_reducible refine (damage_Kind.calls k1 a0 a1 _ _ y283 t287 t288 _ ?side1 ?side2 A12.out (Sent.sub (show ∀ c, c ∈ damage_Kind.L → c ∈ tesseralaw08_DamageOne.L by decide) (Sent.below HS.out (by repeat (first | (with_reducible first | exact HB.out | apply below_alloc | apply pw_below_drewN | apply below_drew1) | exact HB.out))))).mono ?_); (case side1 => repeat (first | exact (by repeat (first | (with_reducible exact HR286.out) | (with_reducible refine Kd.C_alloc ?_ _) | (with_reducible refine Kd.C_drewN ?_ _) | (with_reducible refine Kd.C_drew ?_) | exact HR286.out)) | (with_reducible refine Kd.C_alloc ?_ _) | (with_reducible refine Kd.C_drewN ?_ _) | (with_reducible refine Kd.C_drew ?_))); (case side2 => exact HC286.out); rintro e w29 ⟨rfl, hb⟩; refine ⟨_, rfl, ?_⟩; have n0_ := Aside0.mk (Kd.R_below (by (with_reducible repeat (first | apply Kd.R_alloc | apply Kd.R_drewN | apply Kd.R_drew)); exact HO278.out) hb); have n1_ := Aside0.mk (Kd.C_below (by repeat (first | (with_reducible exact HR286.out) | (with_reducible refine Kd.C_alloc ?_ _) | (with_reducible refine Kd.C_drewN ?_ _) | (with_reducible refine Kd.C_drew ?_) | exact HR286.out)) hb); have n2_ := Aside0.mk (below_step (by repeat (first | (with_reducible first | exact HB.out | apply below_alloc | apply pw_below_drewN | apply below_drew1) | exact HB.out)) hb); clear HO278; clear HR286; clear HB; have HO278 := n0_; have HR286 := n1_; have HB := n2_; clear n0_ n1_ n2_; (try clear hb); (try clear hb2); (try clear hk); (try clear hi); (try simp only [errW_none, errW_some])))
                            go_roundg k1
                            case measure => have := HK1.out; omega
                            case rel => exact ⟨(wrap64 (x5_1 + 1)), (by first | rfl | (simp; done) | (simp [*]; done)), H', ⟨by have := HK1.out; omega⟩, ⟨by repeat (first | (with_reducible first | exact HB.out | apply below_alloc | apply pw_below_drewN | apply below_drew1) | exact HB.out)⟩⟩
                          · rw [if_neg c22] at H
                            have c22b0 : (t287 == 2) = false := beq_eq_false_iff_ne.mpr c22
                            have c22b1 : (t287 != 2) = true := bne_iff_ne.mpr c22
                            exact absurd ((Option.some.inj H).trans HT.out) (by decide)
                      · rw [if_neg c20] at H
                        have c20b0 : (t279 == 1) = false := beq_eq_false_iff_ne.mpr c20
                        have c20b1 : (t279 != 1) = true := bne_iff_ne.mpr c20
                        exact absurd ((Option.some.inj H).trans HT.out) (by decide)
                    · rw [if_neg c19] at H
                      have c19b0 : (isNil t288) = false := by simpa using c19
                      clear c19
                      exact absurd ((Option.some.inj H).trans HT.out) (by decide)
                  · rw [if_neg c17] at H
                    have c17b0 : (isNil t282) = false := by simpa using c17
                    clear c17
                    exact absurd ((Option.some.inj H).trans HT.out) (by decide)
                · rw [if_neg c15] at H
                  have c15b0 : (isNil t280) = false := by simpa using c15
                  clear c15
                  exact absurd ((Option.some.inj H).trans HT.out) (by decide)
              · rw [if_neg c13] at H
                have c13b0 : decide (x5_1 < a0) = false := decide_eq_false c13
                clear c13
                have hq30 := fun (W_ : World) => errW_neq_nil t280 W_
                by_cases c31 : ((isNil t280) = true)
                · rw [if_pos c31] at H
                  have c31b0 : (isNil t280) = true := c31
                  clear c31
                  have hq32 := fun (W_ : World) => errW_neq_nil t282 W_
                  by_cases c33 : ((isNil t282) = true)
                  · rw [if_pos c33] at H
                    have c33b0 : (isNil t282) = true := c33
                    clear c33
                    have hq34 := fun (W_ : World) => errW_neq_nil t288 W_
                    by_cases c35 : ((isNil t288) = true)
                    · rw [if_pos c35] at H
                      have c35b0 : (isNil t288) = true := c35
                      clear c35
                      by_cases c36 : t279 = 2
                      · rw [if_pos c36] at H
                        have c36b0 : (t279 == 2) = true := beq_iff_eq.mpr c36
                        have c36b1 : (t279 != 2) = false := bne_eq_false_iff_eq.mpr c36
                        clear c36
                        by_cases c37 : t281 = true
                        · subst c37
                          have H1 : (some false) = some r := by rw [if_pos rfl] at H; exact H
                          clear H
                          have H := H1
                          clear H1
                          exact absurd ((Option.some.inj H).trans HT.out) (by decide)
                        · replace c37 := Bool.eq_false_iff.mpr c37
                          subst c37
                          have H1 : (if t287 = 2 then (tesseralaw08_DamageOne.l0 k1 a0 a1 (wrap64 (x5_1 + 1))) else (some false)) = some r := by rw [if_neg (show ¬ (false = true) by decide)] at H; exact H
                          clear H
                          have H := H1
                          clear H1
                          by_cases c38 : t287 = 2
                          · rw [if_pos c38] at H
                            have c38b0 : (t287 == 2) = true := beq_iff_eq.mpr c38
                            have c38b1 : (t287 != 2) = false := bne_eq_false_iff_eq.mpr c38
                            clear c38
                            have H' := Aside0.mk H
                            clear H
                            go_wp2_with (first | ((with_reducible refine gate_dst (N := 34) rfl ?_); refine Kd.R_lit (Kd.int .i64) _ 3 ?hg (N := 34) ?hd (xs := ([wrap64 (2 * x5_1), wrap64 ((wrap64 (2 * x5_1)) + 1)] : List Int)) (inner := [.int .i64 (wrap64 (2 * x5_1)), .int .i64 (wrap64 ((wrap64 (2 * x5_1)) + 1))]) (ok := fun _ => True) (okp := fun _ => True) ?hr ?hp (fun _ hk => hk) trivial (Below.refl _ _) (Nat.le_refl _) (by simp) ?_; (case hd => rfl); (case hg => rfl); (case hr => first | (go_simp; done) | (go_simp; rfl)); (case hp => exact (Reps.one (show Kd.M (Kd.int .i64) _ _ _ (wrap64 (2 * x5_1)) [.int .i64 (wrap64 (2 * x5_1))] from rfl) (Reps.one (show Kd.M (Kd.int .i64) _ _ _ (wrap64 ((wrap64 (2 * x5_1)) + 1)) [.int .i64 (wrap64 ((wrap64 (2 * x5_1)) + 1))] from rfl) (Reps.none _ _)))); intro v277 w39 ho40 hb hg_ hnew_; clear hg_ hnew_; (first | rw [← Ny276.out] at ho40 | (simp only [Int.reduceToNat] at ho40; rw [← Ny276.out] at ho40)); have n0_ := Aside0.mk (Kd.R_lower ho40 (below_size (by repeat (first | (with_reducible first | exact HB.out | apply below_alloc | apply pw_below_drewN | apply below_drew1) | exact HB.out)))); have n1_ := Aside0.mk (below_step (by repeat (first | (with_reducible first | exact HB.out | apply below_alloc | apply pw_below_drewN | apply below_drew1) | exact HB.out)) hb); clear HB; have HO278 := n0_; have HB := n1_; clear n0_ n1_; clear hb ho40; obtain ⟨Ao41, co41, eo41⟩ := Kd.R_slice HO278.out; subst eo41) | ((with_reducible refine gate_callee (f := 14) rfl ?_); refine goesL_ (some 39) rfl rfl Tryd.func14 (by kernel_rfl) rfl #[.int .i64 a0, .int .i64 a1, .slice Ao41 y276.length co41] rfl (by (try simp only [List.map_toArray, List.map_cons, List.map_nil]); first | done | rfl | (simp only [List.length_drop, List.length_take]; rfl)) ?_; (with_reducible refine (damage_Kind.calls k1 a0 a1 _ _ y276 t279 t280 _ ?side1 ?side2 A9.out (Sent.sub (show ∀ c, c ∈ damage_Kind.L → c ∈ tesseralaw08_DamageOne.L by decide) (Sent.below HS.out (by repeat (first | (with_reducible first | exact HB.out | apply below_alloc | apply pw_below_drewN | apply below_drew1) | exact HB.out))))).mono ?_); (case side1 => repeat (first | exact (Kd.R_reads' HO278.out).2.2 | (with_reducible refine Kd.C_alloc ?_ _) | (with_reducible refine Kd.C_drewN ?_ _) | (with_reducible refine Kd.C_drew ?_))); (case side2 => exact (Kd.R_reads' HO278.out).2.1); rintro e w42 ⟨rfl, hb⟩; refine ⟨_, rfl, ?_⟩; have n0_ := Aside0.mk (Kd.R_below (by (with_reducible repeat (first | apply Kd.R_alloc | apply Kd.R_drewN | apply Kd.R_drew)); exact HO278.out) hb); have n1_ := Aside0.mk (below_step (by repeat (first | (with_reducible first | exact HB.out | apply below_alloc | apply pw_below_drewN | apply below_drew1) | exact HB.out)) hb); clear HO278; clear HB; have HO278 := n0_; have HB := n1_; clear n0_ n1_; (try clear hb); (try clear hb2); (try clear hk); (try clear hi); (try simp only [errW_none, errW_some])) | ((with_reducible refine gate_callee (f := 10) rfl ?_); refine goesL_ (some 46) rfl rfl Tryd.func10 (by kernel_rfl) rfl #[.int .i64 a0, .int .i64 a1, .slice Ao41 y276.length co41] rfl (by (try simp only [List.map_toArray, List.map_cons, List.map_nil]); first | done | rfl | (simp only [List.length_drop, List.length_take]; rfl)) ?_; (with_reducible refine (damage_Gone.calls k1 a0 a1 _ _ y276 false t282 _ ?side1 ?side2 A10.out (Sent.sub (show ∀ c, c ∈ damage_Gone.L → c ∈ tesseralaw08_DamageOne.L by decide) (Sent.below HS.out (by repeat (first | (with_reducible first | exact HB.out | apply below_alloc | apply pw_below_drewN | apply below_drew1) | exact HB.out))))).mono ?_); (case side1 => repeat (first | exact (Kd.R_reads' HO278.out).2.2 | (with_reducible refine Kd.C_alloc ?_ _) | (with_reducible refine Kd.C_drewN ?_ _) | (with_reducible refine Kd.C_drew ?_))); (case side2 => exact (Kd.R_reads' HO278.out).2.1); rintro e w43 ⟨rfl, hb⟩; refine ⟨_, rfl, ?_⟩; have n0_ := Aside0.mk (Kd.R_below (by (with_reducible repeat (first | apply Kd.R_alloc | apply Kd.R_drewN | apply Kd.R_drew)); exact HO278.out) hb); have n1_ := Aside0.mk (below_step (by repeat (first | (with_reducible first | exact HB.out | apply below_alloc | apply pw_below_drewN | apply below_drew1) | exact HB.out)) hb); clear HO278; clear HB; have HO278 := n0_; have HB := n1_; clear n0_ n1_; (try clear hb); (try clear hb2); (try clear hk); (try clear hi); (try simp only [errW_none, errW_some]); have q44 : (1 : Int) ≤ ((y276.length : Int) : Int) := of_decide_eq_true (by first | (with_reducible assumption) | assumption); obtain ⟨i044, hi044, _, hsz44, _⟩ := info_parts info3; have hroom44 : y276.length ≤ co41 := (Kd.R_reads' HO278.out).2.1; have hC44 : Kd.C (Kd.int .i64) _ Ao41 y276.length y276 := (Kd.R_reads' HO278.out).2.2; have hcut44 := cut_from (P := Tryd.prog) 22 3 .i64 Tryd.underlying22 hi044 1 hsz44 Ao41 y276.length co41 1 (by omega) q44; have hr44 := Kd.C_drop (m := (1 : Int).toNat) (c := co41) hC44 (by omega) hroom44; obtain ⟨A44, hA44⟩ : ∃ A1, A1 = (if co41 = (1 : Int).toNat then Ao41 else (Ao41 : Option Addr).map (·.add ((1 : Int).toNat * 1))) := ⟨_, rfl⟩; obtain ⟨c44, hc44⟩ : ∃ c1, c1 = co41 - (1 : Int).toNat := ⟨_, rfl⟩; have hy44 : y283.length = y276.length - (1 : Int).toNat := (by rw [Ny283.out, List.length_drop] <;> omega); rw [show (y276).drop (1 : Int).toNat = y283 from Ny283.out.symm] at hr44; replace hr44 : Kd.C (Kd.int .i64) _ A44 y283.length y283 := (by rw [hA44]; exact hr44); rw [← hy44, ← hA44, ← hc44] at hcut44; have HR286 := Aside0.mk hr44; have HC286 := Aside0.mk (show y283.length ≤ c44 from by rw [hy44, hc44]; exact Nat.sub_le_sub_right hroom44 _); clear hr44 hC44 hroom44 hi044 hsz44 hc44; have KY44 := Aside0.mk hy44; have KA44 := Aside0.mk hA44; clear hy44 hA44; have KL44 := Aside0.mk (show 1 ≤ y276.length from by omega); replace q44 := eq_true q44) | ((with_reducible refine gate_callee (f := 14) rfl ?_); refine goesL_ (some 54) rfl rfl Tryd.func14 (by kernel_rfl) rfl #[.int .i64 a0, .int .i64 a1, .slice A44 y283.length c44] rfl (by (try simp only [List.map_toArray, List.map_cons, List.map_nil]); first | done | rfl | (simp only [List.length_drop, List.length_take]; rfl)) ?_; (with_reducible refine (damage_Kind.calls k1 a0 a1 _ _ y283 t287 t288 _ ?side1 ?side2 A12.out (Sent.sub (show ∀ c, c ∈ damage_Kind.L → c ∈ tesseralaw08_DamageOne.L by decide) (Sent.below HS.out (by repeat (first | (with_reducible first | exact HB.out | apply below_alloc | apply pw_below_drewN | apply below_drew1) | exact HB.out))))).mono ?_); (case side1 => repeat (first | exact (by repeat (first | (with_reducible exact HR286.out) | (with_reducible refine Kd.C_alloc ?_ _) | (with_reducible refine Kd.C_drewN ?_ _) | (with_reducible refine Kd.C_drew ?_) | exact HR286.out)) | (with_reducible refine Kd.C_alloc ?_ _) | (with_reducible refine Kd.C_drewN ?_ _) | (with_reducible refine Kd.C_drew ?_))); (case side2 => exact HC286.out); rintro e w45 ⟨rfl, hb⟩; refine ⟨_, rfl, ?_⟩; have n0_ := Aside0.mk (Kd.R_below (by (with_reducible repeat (first | apply Kd.R_alloc | apply Kd.R_drewN | apply Kd.R_drew)); exact HO278.out) hb); have n1_ := Aside0.mk (Kd.C_below (by repeat (first | (with_reducible exact HR286.out) | (with_reducible refine Kd.C_alloc ?_ _) | (with_reducible refine Kd.C_drewN ?_ _) | (with_reducible refine Kd.C_drew ?_) | exact HR286.out)) hb); have n2_ := Aside0.mk (below_step (by repeat (first | (with_reducible first | exact HB.out | apply below_alloc | apply pw_below_drewN | apply below_drew1) | exact HB.out)) hb); clear HO278; clear HR286; clear HB; have HO278 := n0_; have HR286 := n1_; have HB := n2_; clear n0_ n1_ n2_; (try clear hb); (try clear hb2); (try clear hk); (try clear hi); (try simp only [errW_none, errW_some])))
                            go_roundg k1
                            case measure => have := HK1.out; omega
                            case rel => exact ⟨(wrap64 (x5_1 + 1)), (by first | rfl | (simp; done) | (simp [*]; done)), H', ⟨by have := HK1.out; omega⟩, ⟨by repeat (first | (with_reducible first | exact HB.out | apply below_alloc | apply pw_below_drewN | apply below_drew1) | exact HB.out)⟩⟩
                          · rw [if_neg c38] at H
                            have c38b0 : (t287 == 2) = false := beq_eq_false_iff_ne.mpr c38
                            have c38b1 : (t287 != 2) = true := bne_iff_ne.mpr c38
                            exact absurd ((Option.some.inj H).trans HT.out) (by decide)
                      · rw [if_neg c36] at H
                        have c36b0 : (t279 == 2) = false := beq_eq_false_iff_ne.mpr c36
                        have c36b1 : (t279 != 2) = true := bne_iff_ne.mpr c36
                        exact absurd ((Option.some.inj H).trans HT.out) (by decide)
                    · rw [if_neg c35] at H
                      have c35b0 : (isNil t288) = false := by simpa using c35
                      clear c35
                      exact absurd ((Option.some.inj H).trans HT.out) (by decide)
                  · rw [if_neg c33] at H
                    have c33b0 : (isNil t282) = false := by simpa using c33
                    clear c33
                    exact absurd ((Option.some.inj H).trans HT.out) (by decide)
                · rw [if_neg c31] at H
                  have c31b0 : (isNil t280) = false := by simpa using c31
                  clear c31
                  exact absurd ((Option.some.inj H).trans HT.out) (by decide)
            · rw [if_neg c11] at H
              exact absurd H (by simp)
          · rw [if_neg c8] at H
            have c8b0 : decide (x5_1 < (wrap64 (a0 + a1))) = false := decide_eq_false c8
            clear c8
            replace H := Option.bind_eq_some_iff.mp H
            obtain ⟨⟨t274, t275⟩, A460, H⟩ := H
            replace H : (if (isNil t275) = true then (some (t274 == 0)) else (some false)) = some r := H
            have A46 := Aside0.mk A460
            clear A460
            have hq47 := fun (W_ : World) => errW_eql_nil t275 W_
            by_cases c48 : (isNil t275) = true
            · rw [if_pos c48] at H
              have c48b0 : (isNil t275) = true := c48
              clear c48
              obtain rfl := Option.some.inj H
              go_wp2_with (first | ((with_reducible refine gate_callee (f := 14) rfl ?_); refine goesL_ (some 85) rfl rfl Tryd.func14 (by kernel_rfl) rfl #[.int .i64 a0, .int .i64 a1, .slice none 0 0] rfl (by (try simp only [List.map_toArray, List.map_cons, List.map_nil]); first | done | rfl | (simp only [List.length_drop, List.length_take]; rfl)) ?_; (refine (damage_Kind.calls k1 a0 a1 _ _ ([] : List Int) t274 t275 _ ?side1 ?side2 A46.out (Sent.sub (show ∀ c, c ∈ damage_Kind.L → c ∈ tesseralaw08_DamageOne.L by decide) (Sent.below HS.out (by repeat (first | (with_reducible first | exact HB.out | apply below_alloc | apply pw_below_drewN | apply below_drew1) | exact HB.out))))).mono ?_); (case side1 => exact Kd.C_nil _ _); (case side2 => exact Nat.le_refl _); rintro e w49 ⟨rfl, hb⟩; refine ⟨_, rfl, ?_⟩; have n0_ := Aside0.mk (below_step (by repeat (first | (with_reducible first | exact HB.out | apply below_alloc | apply pw_below_drewN | apply below_drew1) | exact HB.out)) hb); clear HB; have HB := n0_; clear n0_; (try clear hb); (try clear hb2); (try clear hk); (try clear hi); (try simp only [errW_none, errW_some])))
              go_ret
              exact ⟨by first | rfl | (simp [errW_none, errW_some] <;> rfl) | (simp [*, errW_none, errW_some] <;> rfl), by repeat (first | (with_reducible first | exact HB.out | apply below_alloc | apply pw_below_drewN | apply below_drew1) | exact HB.out)⟩
            · rw [if_neg c48] at H
              have c48b0 : (isNil t275) = false := by simpa using c48
              clear c48
              exact absurd ((Option.some.inj H).trans HT.out) (by decide)
    · replace c6 := Bool.eq_false_iff.mpr c6
      subst c6
      have H1 : (some true) = some r := by rw [if_neg (show ¬ (false = true) by decide)] at H; exact H
      clear H
      have H := H1
      clear H1
      obtain rfl := Option.some.inj H
      go_enter Tryd.func5, Tryd.ntmps5
      go_wp2_with (first | ((with_reducible refine gate_callee (f := 6) rfl ?_); refine goesL_ (some 16) rfl rfl Tryd.func6 (by kernel_rfl) rfl #[] rfl (by (try simp only [List.map_toArray, List.map_cons, List.map_nil]); first | done | rfl | (simp only [List.length_drop, List.length_take]; rfl)) ?_; (with_reducible refine (tesseralaw08_alive.calls k  true _ A3.out (Sent.sub (show ∀ c, c ∈ tesseralaw08_alive.L → c ∈ tesseralaw08_DamageOne.L by decide) (Sent.below HS.out (by repeat (first | (with_reducible first | exact HB.out | apply below_alloc | apply pw_below_drewN | apply below_drew1) | exact HB.out))))).mono ?_); rintro e w50 ⟨rfl, hb⟩; refine ⟨_, rfl, ?_⟩; have n0_ := Aside0.mk (below_step (by repeat (first | (with_reducible first | exact HB.out | apply below_alloc | apply pw_below_drewN | apply below_drew1) | exact HB.out)) hb); clear HB; have HB := n0_; clear n0_; (try clear hb); (try clear hb2); (try clear hk); (try clear hi)) | ((with_reducible refine gate_callee (f := 7) rfl ?_); refine goesL_ (some 20) rfl rfl Tryd.func7 (by kernel_rfl) rfl #[.int .i64 a0, .int .i64 a1] rfl (by (try simp only [List.map_toArray, List.map_cons, List.map_nil]); first | done | rfl | (simp only [List.length_drop, List.length_take]; rfl)) ?_; (with_reducible refine (tesseraref04_Legal.calls a0 a1 false _ A5.out).mono ?_); rintro e w' ⟨rfl, ⟨nd, rfl⟩⟩; refine ⟨_, rfl, ?_⟩))
      go_ret
      exact ⟨by first | rfl | (simp [errW_none, errW_some] <;> rfl) | (simp [*, errW_none, errW_some] <;> rfl), by repeat (first | (with_reducible first | exact HB.out | apply below_alloc | apply pw_below_drewN | apply below_drew1) | exact HB.out)⟩
  · replace c4 := Bool.eq_false_iff.mpr c4
    subst c4
    have H1 : (some false) = some r := by rw [if_neg (show ¬ (false = true) by decide)] at H; exact H
    clear H
    have H := H1
    clear H1
    exact absurd ((Option.some.inj H).trans HT.out) (by decide)

end Go.Proofs.YtndnedjclbigiaaDoor.F

namespace Go.Proofs.YtndnedjclbigiaaDoor.Pure
open Go.RowKit Go.Proofs.YtndnedjclbigiaaDoorW.PrintWords Go.Proofs.YtndnedjclbigiaaDoorW.PrintLast Go.Proofs.YtndnedjclbigiaaDoor.F Go.Proofs.YtndnedjclbigiaaDoor.Plain Go.Proofs.YtndnedjclbigiaaDoor.Lin
set_option linter.unusedVariables false
attribute [local instance] linErrs

theorem wscan_two (i : Nat) : wscan none [((2 * i : Nat) : Int), ((2 * i + 1 : Nat) : Int)] = [(i : Int)] := by
  rw [wscan, wscan, wscan, if_neg (fun e => by cases e.2), if_pos ⟨by omega, by congr 1; omega⟩]
  simp
  omega
theorem wscan_one (i : Nat) : wscan none [((2 * i + 1 : Nat) : Int)] = [] := by
  rw [wscan, wscan, if_neg (fun e => by cases e.2)]; rfl
theorem two_good {n i : Nat} (h : i < n) : GoodL (2 * n) [((2 * i : Nat) : Int), ((2 * i + 1 : Nat) : Int)] := by
  refine ⟨fun x hx => ?_, List.pairwise_pair.2 (by omega)⟩
  have : x = ((2 * i : Nat) : Int) ∨ x = ((2 * i + 1 : Nat) : Int) := by simpa using hx
  omega
theorem one_good {n i : Nat} (h : i < n) : GoodL (2 * n) [((2 * i + 1 : Nat) : Int)] := by
  refine ⟨fun x hx => ?_, by simp⟩
  have : x = ((2 * i + 1 : Nat) : Int) := by simpa using hx
  omega
theorem two_whole {a b i : Nat} (hl : legalB a b = true) (h : i < a + b) : Whole_ a b [((2 * i : Nat) : Int), ((2 * i + 1 : Nat) : Int)] := by
  have hl' : (1 ≤ a ∧ 2 ≤ b) ∧ a + b ≤ 16 := by simpa [legalB] using hl
  refine whole_of_shards hl ?_
  have h1 := filter_not (fun s => s == i) (List.range (a + b))
  rw [one_in_range i (a + b) h, List.length_range] at h1
  have h2 : (List.range (a + b)).filter (fun s => decide (((2 * s : Nat) : Int) ∉ [((2 * i : Nat) : Int), ((2 * i + 1 : Nat) : Int)] ∧ ((2 * s + 1 : Nat) : Int) ∉ [((2 * i : Nat) : Int), ((2 * i + 1 : Nat) : Int)])) = (List.range (a + b)).filter (fun s => !(s == i)) := by
    refine List.filter_congr (fun s _ => ?_)
    by_cases e : s = i
    · subst e; simp
    · rw [decide_eq_true]
      · simp [e]
      · simp only [List.mem_cons, List.not_mem_nil, or_false]
        omega
  rw [h2]
  omega

theorem one_l0 {a b : Nat} (hl : legalB a b = true) : ∀ (d i : Nat) (K : Nat), i + d = a + b → 2 * d + 1100 < K → tesseralaw08_DamageOne.l0 K (a : Int) (b : Int) (i : Int) = some true := by
  have hl' : (1 ≤ a ∧ 2 ≤ b) ∧ a + b ≤ 16 := by simpa [legalB] using hl
  have hw : wrap64 ((a : Int) + (b : Int)) = ((a + b : Nat) : Int) := by unfold wrap64; omega
  intro d
  induction d with
  | zero =>
    intro i K hi hK
    obtain ⟨K, rfl⟩ : ∃ m, K = m + 1 := ⟨K - 1, by omega⟩
    rw [tesseralaw08_DamageOne.l0, hw, if_neg (by omega), kind_good hl ⟨fun x hx => by simp at hx, List.Pairwise.nil⟩ K (by omega), Option.bind_some]
    rfl
  | succ d ih =>
    intro i K hi hK
    obtain ⟨K, rfl⟩ : ∃ m, K = m + 1 := ⟨K - 1, by omega⟩
    have e1 : wrap64 (2 * (i : Int)) = ((2 * i : Nat) : Int) := by unfold wrap64; omega
    have e2 : wrap64 (((2 * i : Nat) : Int) + 1) = ((2 * i + 1 : Nat) : Int) := by unfold wrap64; omega
    have e3 : wrap64 ((i : Int) + 1) = ((i + 1 : Nat) : Int) := by unfold wrap64; omega
    have hi' : i < a + b := by omega
    obtain ⟨g, hg, hg2, _⟩ := gone_good hl (two_good hi') K (by omega)
    obtain rfl := hg2.2 (two_whole hl hi')
    have k1 := kind_good hl (two_good hi') K (by omega)
    have k2 := kind_good hl (one_good hi') K (by omega)
    rw [wscan_two] at k1
    rw [wscan_one] at k2
    have r0 : rd [(i : Int)] 0 = (i : Int) := rfl
    rw [r0] at k1
    rw [tesseralaw08_DamageOne.l0, hw, if_pos (by omega), e1, e2, Option.bind_some, k1, Option.bind_some, hg, Option.bind_some, if_pos (by simp), e3]
    show ((damage_Kind.f K (a : Int) (b : Int) [((2 * i + 1 : Nat) : Int)]).bind _) = _
    rw [k2, Option.bind_some]
    have hrec := ih (i + 1) K (by omega) (by omega)
    have n1 : isNil (none : Option Int) = true := rfl
    by_cases hia : (i : Int) < (a : Int)
    · rw [if_pos hia, if_pos n1, if_pos n1, if_pos n1, if_pos (by simp [hia]), if_neg (by simp), if_pos (by simp), hrec]
    · rw [if_neg hia, if_pos n1, if_pos n1, if_pos n1, if_pos (by simp [hia]), if_neg (by simp), if_pos (by simp), hrec]

theorem DamageOne : ∀ (a0 : Int) (a1 : Int), (Lit.int .i64 a0).wf = true → (Lit.int .i64 a1).wf = true → ∃ k, F.tesseralaw08_DamageOne.f k a0 a1 = some true := by
  intro a b ha hb
  refine ⟨2000, ?_⟩
  unfold tesseralaw08_DamageOne.f
  rw [alive_ok _ (by omega), Option.bind_some, if_pos rfl]
  rcases legal_cases a b with ⟨A, B, rfl, rfl, hleg, hL, hC⟩ | ⟨hL, hC⟩
  · have hl' : (1 ≤ A ∧ 2 ≤ B) ∧ A + B ≤ 16 := by simpa [legalB] using hleg
    rw [hL, Option.bind_some, if_pos rfl]
    exact one_l0 hleg (A + B) 0 2000 (by omega) (by omega)
  · rw [hL]; rfl

end Go.Proofs.YtndnedjclbigiaaDoor.Pure

namespace Go.Proofs.YtndnedjclbigiaaDoor.damageOne
open Go.ChangeShapes Go.WideShapes Go.ChangeAt Go.RowKit
open Go.ChangeMaps (open_string shut_string)
set_option linter.unusedVariables false
set_option linter.unusedSimpArgs false
theorem gErrParams : Tryd.prog.globalNamed "tessera/api.ErrParams" = some 3 := by kernel_rfl
theorem tErrParams : (Tryd.prog.globals[3]?).map (·.type) = some 30 := by kernel_rfl
theorem gErrShape : Tryd.prog.globalNamed "tessera/api.ErrShape" = some 0 := by kernel_rfl
theorem tErrShape : (Tryd.prog.globals[0]?).map (·.type) = some 30 := by kernel_rfl
theorem gErrHalf : Tryd.prog.globalNamed "tessera/api.ErrHalf" = some 2 := by kernel_rfl
theorem tErrHalf : (Tryd.prog.globals[2]?).map (·.type) = some 30 := by kernel_rfl
theorem gErrNumber : Tryd.prog.globalNamed "tessera/api.ErrNumber" = some 1 := by kernel_rfl
theorem tErrNumber : (Tryd.prog.globals[1]?).map (·.type) = some 30 := by kernel_rfl
theorem cellsE : Tryd.prog.cellsOf 147 = 1 := by kernel_rfl
theorem cellsT : Tryd.prog.cellsOf 9 = 1 := by kernel_rfl
theorem star : "*" ++ "errors.errorString" = "*errors.errorString" := by decide
theorem rowE (u : TypeId) (h : Tryd.prog.typeName? 3 u = some "*errors.errorString") : u = 133 :=
  typeName_ptr_named (nm := "errors.errorString") (by rw [star]; kernel_rfl) (by kernel_rfl) (by decide) u (by rw [star]; exact h)
set_option maxRecDepth 100000 in
/-- The listed sentinels, each at a place of its own. -/
theorem sentinels {W : World} (h : laidMet Tryd.prog [("tessera/api.ErrParams", Rows.laid_tessera_api_ErrParams), ("tessera/api.ErrShape", Rows.laid_tessera_api_ErrShape), ("tessera/api.ErrHalf", Rows.laid_tessera_api_ErrHalf), ("tessera/api.ErrNumber", Rows.laid_tessera_api_ErrNumber)] W) : ∃ E : Errs, @Sent E [1, 2, 4, 12] W := by
  obtain ⟨ps, ⟨g0, t0, cs0, f0, p0, q0, hg0, ht0, hv0, hd0, ⟨g1, t1, cs1, f1, p1, q1, hg1, ht1, hv1, hd1, ⟨g2, t2, cs2, f2, p2, q2, hg2, ht2, hv2, hd2, ⟨g3, t3, cs3, f3, p3, q3, hg3, ht3, hv3, hd3, hq, e3⟩, e2⟩, e1⟩, e0⟩, hnd, hrows⟩ := h
  obtain rfl := Option.some.inj (gErrParams.symm.trans hg0)
  obtain rfl := Option.some.inj (tErrParams.symm.trans ht0)
  obtain rfl := Option.some.inj (gErrShape.symm.trans hg1)
  obtain rfl := Option.some.inj (tErrShape.symm.trans ht1)
  obtain rfl := Option.some.inj (gErrHalf.symm.trans hg2)
  obtain rfl := Option.some.inj (tErrHalf.symm.trans ht2)
  obtain rfl := Option.some.inj (gErrNumber.symm.trans hg3)
  obtain rfl := Option.some.inj (tErrNumber.symm.trans ht3)
  have hq' : q3 = [] := hq
  subst hq'
  subst e3
  subst e2
  subst e1
  subst e0
  obtain ⟨l0⟩ := cs0
  have ok0 : ∀ u v, l0 = [.iface u v] → Value.okWide Tryd.prog W .any 0 u v := fun u v e => by
    subst e
    exact (hrows 3 0 (by simp [MemPlace.row])).2 u v (by simpa using World.var?_cell hg0 hv0 0)
  obtain ⟨a0, s0, rfl, hc0, hs0, hz0, rfl⟩ := errorString_of_trod Tryd.underlying30 rowE Tryd.underlying133 Tryd.underlying147 rfl rfl Tryd.underlying9 cellsE cellsT hd0 ok0
  have hcell0 : W.cell? ⟨3, 0, none⟩ = some (.iface 133 (.pointer (some a0))) := by simpa using World.var?_cell hg0 hv0 0
  have hblk0 := (hrows a0.block a0.off (by simp [MemPlace.row])).1
  obtain ⟨l1⟩ := cs1
  have ok1 : ∀ u v, l1 = [.iface u v] → Value.okWide Tryd.prog W .any 0 u v := fun u v e => by
    subst e
    exact (hrows 0 0 (by simp [MemPlace.row])).2 u v (by simpa using World.var?_cell hg1 hv1 0)
  obtain ⟨a1, s1, rfl, hc1, hs1, hz1, rfl⟩ := errorString_of_trod Tryd.underlying30 rowE Tryd.underlying133 Tryd.underlying147 rfl rfl Tryd.underlying9 cellsE cellsT hd1 ok1
  have hcell1 : W.cell? ⟨0, 0, none⟩ = some (.iface 133 (.pointer (some a1))) := by simpa using World.var?_cell hg1 hv1 0
  have hblk1 := (hrows a1.block a1.off (by simp [MemPlace.row])).1
  obtain ⟨l2⟩ := cs2
  have ok2 : ∀ u v, l2 = [.iface u v] → Value.okWide Tryd.prog W .any 0 u v := fun u v e => by
    subst e
    exact (hrows 2 0 (by simp [MemPlace.row])).2 u v (by simpa using World.var?_cell hg2 hv2 0)
  obtain ⟨a2, s2, rfl, hc2, hs2, hz2, rfl⟩ := errorString_of_trod Tryd.underlying30 rowE Tryd.underlying133 Tryd.underlying147 rfl rfl Tryd.underlying9 cellsE cellsT hd2 ok2
  have hcell2 : W.cell? ⟨2, 0, none⟩ = some (.iface 133 (.pointer (some a2))) := by simpa using World.var?_cell hg2 hv2 0
  have hblk2 := (hrows a2.block a2.off (by simp [MemPlace.row])).1
  obtain ⟨l3⟩ := cs3
  have ok3 : ∀ u v, l3 = [.iface u v] → Value.okWide Tryd.prog W .any 0 u v := fun u v e => by
    subst e
    exact (hrows 1 0 (by simp [MemPlace.row])).2 u v (by simpa using World.var?_cell hg3 hv3 0)
  obtain ⟨a3, s3, rfl, hc3, hs3, hz3, rfl⟩ := errorString_of_trod Tryd.underlying30 rowE Tryd.underlying133 Tryd.underlying147 rfl rfl Tryd.underlying9 cellsE cellsT hd3 ok3
  have hcell3 : W.cell? ⟨1, 0, none⟩ = some (.iface 133 (.pointer (some a3))) := by simpa using World.var?_cell hg3 hv3 0
  have hblk3 := (hrows a3.block a3.off (by simp [MemPlace.row])).1
  have hne0_1 : a0 ≠ a1 := by
    intro e
    rw [e] at hnd
    simp [MemPlace.row] at hnd
  have hne0_2 : a0 ≠ a2 := by
    intro e
    rw [e] at hnd
    simp [MemPlace.row] at hnd
  have hne0_3 : a0 ≠ a3 := by
    intro e
    rw [e] at hnd
    simp [MemPlace.row] at hnd
  have hne1_2 : a1 ≠ a2 := by
    intro e
    rw [e] at hnd
    simp [MemPlace.row] at hnd
  have hne1_3 : a1 ≠ a3 := by
    intro e
    rw [e] at hnd
    simp [MemPlace.row] at hnd
  have hne2_3 : a2 ≠ a3 := by
    intro e
    rw [e] at hnd
    simp [MemPlace.row] at hnd
  refine ⟨⟨fun c => if c = 1 then a0 else if c = 2 then a1 else if c = 4 then a2 else if c = 12 then a3 else default⟩, ?_⟩
  refine @Sent.mk ⟨fun c => if c = 1 then a0 else if c = 2 then a1 else if c = 4 then a2 else if c = 12 then a3 else default⟩ _ W ?_ ?_ ?_
  · intro c hc
    simp only [List.mem_cons, List.not_mem_nil, or_false] at hc
    rcases hc with rfl | rfl | rfl | rfl
    · exact hcell0
    · exact hcell1
    · exact hcell2
    · exact hcell3
  · intro c hc
    simp only [List.mem_cons, List.not_mem_nil, or_false] at hc
    rcases hc with rfl | rfl | rfl | rfl
    · exact hblk0
    · exact hblk1
    · exact hblk2
    · exact hblk3
  · intro c d hc hd e
    simp only [List.mem_cons, List.not_mem_nil, or_false] at hc hd
    rcases hc with rfl | rfl | rfl | rfl <;> rcases hd with rfl | rfl | rfl | rfl <;> first | rfl | exact absurd e hne0_1 | exact absurd e hne0_1.symm | exact absurd e hne0_2 | exact absurd e hne0_2.symm | exact absurd e hne0_3 | exact absurd e hne0_3.symm | exact absurd e hne1_2 | exact absurd e hne1_2.symm | exact absurd e hne1_3 | exact absurd e hne1_3.symm | exact absurd e hne2_3 | exact absurd e hne2_3.symm
end Go.Proofs.YtndnedjclbigiaaDoor.damageOne
