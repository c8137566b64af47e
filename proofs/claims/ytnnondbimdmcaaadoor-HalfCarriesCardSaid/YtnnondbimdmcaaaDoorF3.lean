-- Written by eprint.py, a program of this session, over the kit's printer. Lean checks it.
import Derived.Test.YtnnondbimdmcaaaDoorF0
import Derived.Test.YtnnondbimdmcaaaDoorF10
import Derived.Test.YtnnondbimdmcaaaDoorF11
import Derived.Test.YtnnondbimdmcaaaDoorF12
import Derived.Test.YtnnondbimdmcaaaDoorF13
import Derived.Test.YtnnondbimdmcaaaDoorF14
namespace Go.Proofs.YtnnondbimdmcaaaDoor.F
open Go.RowKit Go.Proofs.YtnnondbimdmcaaaDoorW.PrintWords Go.Proofs.YtnnondbimdmcaaaDoorW.PrintLast Go.Proofs.YtnnondbimdmcaaaDoorW.PrintMore
attribute [local go_sem] max2_int min2_int max_two min_two max_three min_three max_four min_four   -- for this text's walks alone
set_option linter.unusedVariables false
set_option linter.unusedSimpArgs false
set_option linter.unusedSectionVars false
open Go.Proofs.YtnnondbimdmcaaaDoor
variable [Errs]

/-! ### tesseralaw05_HalfCarries: function 3 -/
def tesseralaw05_HalfCarries.L : List Int := [1, 4, 12]
mutual
def tesseralaw05_HalfCarries.l0 : Nat → Int → Int → Int → Int → Int → Option (Bool)
  | 0, _, _, _, _, _ => none
  | k + 1, x0, x1, x5, x6, x7 => if x7 < x1 then ((half_Carried.f k x0 x1 x7).bind fun bt184 => (if bt184.2.isNone = true then (if (bt184.1.length : Int) > x5 then (tesseralaw05_HalfCarries.j1 k x0 x1 x5 x6 x7 bt184.1 true) else (if x7 = 0 then (tesseralaw05_HalfCarries.j1 k x0 x1 x5 x6 x7 bt184.1 (decide ((bt184.1.length : Int) > 0))) else (tesseralaw05_HalfCarries.j1 k x0 x1 x5 x6 x7 bt184.1 false))) else (tesseralaw05_HalfCarries.j1 k x0 x1 x5 x6 x7 bt184.1 true))) else (some (x6 == x0))
def tesseralaw05_HalfCarries.j1 : Nat → Int → Int → Int → Int → Int → List Int → Bool → Option (Bool)
  | 0, _, _, _, _, _, _, _ => none
  | k + 1, x0, x1, x5, x6, x7, x8, x51 => if x51 = true then (some false) else (tesseralaw05_HalfCarries.l1 k x0 x1 x5 x6 x7 x8 x8 (x8.length : Int) 0)
def tesseralaw05_HalfCarries.l1 : Nat → Int → Int → Int → Int → Int → List Int → List Int → Int → Int → Option (Bool)
  | 0, _, _, _, _, _, _, _, _, _ => none
  | k + 1, x0, x1, x5, x6, x7, x8, x52, x53, x54 => if x54 < x53 then (if 0 ≤ x54 then (if x54 < (x52.length : Int) then ((half_Carrier.f x0 x1 (rd x52 x54)).bind fun bt190 => (if bt190.2.isNone = true then (if bt190.1 = x7 then (if x54 > 0 then (if 0 ≤ (wrap64 (x54 - 1)) then (if (wrap64 (x54 - 1)) < (x8.length : Int) then (if (rd x8 (wrap64 (x54 - 1))) ≥ (rd x52 x54) then (some false) else (tesseralaw05_HalfCarries.l1 k x0 x1 x5 (wrap64 (x6 + 1)) x7 x8 x52 x53 (wrap64 (x54 + 1)))) else (none)) else (none)) else (tesseralaw05_HalfCarries.l1 k x0 x1 x5 (wrap64 (x6 + 1)) x7 x8 x52 x53 (wrap64 (x54 + 1)))) else (some false)) else (some false))) else (none)) else (none)) else (tesseralaw05_HalfCarries.l0 k x0 x1 x5 x6 (wrap64 (x7 + 1)))
end
def tesseralaw05_HalfCarries.f (k : Nat) (a0 : Int) (a1 : Int) : Option (Bool) := (tesseralaw05_alive.f k).bind fun t181 => (if t181 = true then ((tesseraref04_Legal.f a0 a1).bind fun t182 => (if t182 = true then ((tesseraref04_Group.f k a0 a1).bind fun t183 => (tesseralaw05_HalfCarries.l0 k a0 a1 t183 0 0)) else (some true))) else (some false))
theorem tesseralaw05_HalfCarries.mono_l : ∀ k, (∀ y0 y1 y2 y3 y4, LeO (tesseralaw05_HalfCarries.l0 k y0 y1 y2 y3 y4) (tesseralaw05_HalfCarries.l0 (k + 1) y0 y1 y2 y3 y4)) ∧ (∀ y0 y1 y2 y3 y4 y5 y6, LeO (tesseralaw05_HalfCarries.j1 k y0 y1 y2 y3 y4 y5 y6) (tesseralaw05_HalfCarries.j1 (k + 1) y0 y1 y2 y3 y4 y5 y6)) ∧ (∀ y0 y1 y2 y3 y4 y5 y6 y7 y8, LeO (tesseralaw05_HalfCarries.l1 k y0 y1 y2 y3 y4 y5 y6 y7 y8) (tesseralaw05_HalfCarries.l1 (k + 1) y0 y1 y2 y3 y4 y5 y6 y7 y8))
  | 0 => ⟨fun _ _ _ _ _ r h => by simp [tesseralaw05_HalfCarries.l0] at h, fun _ _ _ _ _ _ _ r h => by simp [tesseralaw05_HalfCarries.j1] at h, fun _ _ _ _ _ _ _ _ _ r h => by simp [tesseralaw05_HalfCarries.l1] at h⟩
  | k + 1 => by
    obtain ⟨ih0, ih1, ih2⟩ := tesseralaw05_HalfCarries.mono_l k
    refine ⟨?_, ?_, ?_⟩
    · intro y0 y1 y2 y3 y4
      unfold tesseralaw05_HalfCarries.l0
      repeat' first
      | (with_reducible exact ih0 _ _ _ _ _)
      | (with_reducible exact ih1 _ _ _ _ _ _ _)
      | (with_reducible exact ih2 _ _ _ _ _ _ _ _ _)
      | (with_reducible exact half_Carried.mono _ _ _ _)
      | (with_reducible exact tesseralaw05_alive.mono _)
      | (with_reducible exact tesseraref04_Group.mono _ _ _)
      | (with_reducible exact LeO.refl _)
      | (with_reducible exact LeO.none _)
      | (with_reducible refine LeO.ite ?_ ?_)
      | (with_reducible refine LeO.bind ?_ (fun _ => ?_))
      | exact ih0 _ _ _ _ _
      | exact ih1 _ _ _ _ _ _ _
      | exact ih2 _ _ _ _ _ _ _ _ _
      | exact half_Carried.mono _ _ _ _
      | exact tesseralaw05_alive.mono _
      | exact tesseraref04_Group.mono _ _ _
      | exact LeO.none _
      | refine LeO.ite ?_ ?_
      | refine LeO.bind ?_ (fun _ => ?_)
    · intro y0 y1 y2 y3 y4 y5 y6
      unfold tesseralaw05_HalfCarries.j1
      repeat' first
      | (with_reducible exact ih0 _ _ _ _ _)
      | (with_reducible exact ih1 _ _ _ _ _ _ _)
      | (with_reducible exact ih2 _ _ _ _ _ _ _ _ _)
      | (with_reducible exact half_Carried.mono _ _ _ _)
      | (with_reducible exact tesseralaw05_alive.mono _)
      | (with_reducible exact tesseraref04_Group.mono _ _ _)
      | (with_reducible exact LeO.refl _)
      | (with_reducible exact LeO.none _)
      | (with_reducible refine LeO.ite ?_ ?_)
      | (with_reducible refine LeO.bind ?_ (fun _ => ?_))
      | exact ih0 _ _ _ _ _
      | exact ih1 _ _ _ _ _ _ _
      | exact ih2 _ _ _ _ _ _ _ _ _
      | exact half_Carried.mono _ _ _ _
      | exact tesseralaw05_alive.mono _
      | exact tesseraref04_Group.mono _ _ _
      | exact LeO.none _
      | refine LeO.ite ?_ ?_
      | refine LeO.bind ?_ (fun _ => ?_)
    · intro y0 y1 y2 y3 y4 y5 y6 y7 y8
      unfold tesseralaw05_HalfCarries.l1
      repeat' first
      | (with_reducible exact ih0 _ _ _ _ _)
      | (with_reducible exact ih1 _ _ _ _ _ _ _)
      | (with_reducible exact ih2 _ _ _ _ _ _ _ _ _)
      | (with_reducible exact half_Carried.mono _ _ _ _)
      | (with_reducible exact tesseralaw05_alive.mono _)
      | (with_reducible exact tesseraref04_Group.mono _ _ _)
      | (with_reducible exact LeO.refl _)
      | (with_reducible exact LeO.none _)
      | (with_reducible refine LeO.ite ?_ ?_)
      | (with_reducible refine LeO.bind ?_ (fun _ => ?_))
      | exact ih0 _ _ _ _ _
      | exact ih1 _ _ _ _ _ _ _
      | exact ih2 _ _ _ _ _ _ _ _ _
      | exact half_Carried.mono _ _ _ _
      | exact tesseralaw05_alive.mono _
      | exact tesseraref04_Group.mono _ _ _
      | exact LeO.none _
      | refine LeO.ite ?_ ?_
      | refine LeO.bind ?_ (fun _ => ?_)
theorem tesseralaw05_HalfCarries.mono : ∀ a0 a1 k, LeO (tesseralaw05_HalfCarries.f k a0 a1) (tesseralaw05_HalfCarries.f (k + 1) a0 a1) := by
  intro a0 a1 k
  obtain ⟨ih0, ih1, ih2⟩ := tesseralaw05_HalfCarries.mono_l k
  unfold tesseralaw05_HalfCarries.f
  repeat' first
      | (with_reducible exact ih0 _ _ _ _ _)
      | (with_reducible exact ih1 _ _ _ _ _ _ _)
      | (with_reducible exact ih2 _ _ _ _ _ _ _ _ _)
      | (with_reducible exact half_Carried.mono _ _ _ _)
      | (with_reducible exact tesseralaw05_alive.mono _)
      | (with_reducible exact tesseraref04_Group.mono _ _ _)
      | (with_reducible exact LeO.refl _)
      | (with_reducible exact LeO.none _)
      | (with_reducible refine LeO.ite ?_ ?_)
      | (with_reducible refine LeO.bind ?_ (fun _ => ?_))
      | exact ih0 _ _ _ _ _
      | exact ih1 _ _ _ _ _ _ _
      | exact ih2 _ _ _ _ _ _ _ _ _
      | exact half_Carried.mono _ _ _ _
      | exact tesseralaw05_alive.mono _
      | exact tesseraref04_Group.mono _ _ _
      | exact LeO.none _
      | refine LeO.ite ?_ ?_
      | refine LeO.bind ?_ (fun _ => ?_)
set_option maxHeartbeats 8000000 in
set_option maxRecDepth 100000 in
theorem tesseralaw05_HalfCarries.calls (k : Nat) (a0 : Int) (a1 : Int) (r : Bool) (w : World) (h : tesseralaw05_HalfCarries.f k a0 a1 = some r) (hS : Sent tesseralaw05_HalfCarries.L w) :
    Calls Tryd.prog 3 #[.int .i64 a0, .int .i64 a1] w fun e w' => e = .returned (.bool r) ∧ Below w.heap.size w w' := by
  have hu27 := Tryd.underlying27
  have HB := Aside0.mk (Below.refl w.heap.size w)
  have HS := Aside0.mk hS
  clear hS
  have H : ((tesseralaw05_alive.f k).bind fun t181 => (if t181 = true then ((tesseraref04_Legal.f a0 a1).bind fun t182 => (if t182 = true then ((tesseraref04_Group.f k a0 a1).bind fun t183 => (tesseralaw05_HalfCarries.l0 k a0 a1 t183 0 0)) else (some true))) else (some false))) = some r := h
  clear h
  replace H := Option.bind_eq_some_iff.mp H
  obtain ⟨t181, A30, H⟩ := H
  replace H : (if t181 = true then ((tesseraref04_Legal.f a0 a1).bind fun t182 => (if t182 = true then ((tesseraref04_Group.f k a0 a1).bind fun t183 => (tesseralaw05_HalfCarries.l0 k a0 a1 t183 0 0)) else (some true))) else (some false)) = some r := H
  have A3 := Aside0.mk A30
  clear A30
  by_cases c4 : t181 = true
  · subst c4
    have H1 : ((tesseraref04_Legal.f a0 a1).bind fun t182 => (if t182 = true then ((tesseraref04_Group.f k a0 a1).bind fun t183 => (tesseralaw05_HalfCarries.l0 k a0 a1 t183 0 0)) else (some true))) = some r := by rw [if_pos rfl] at H; exact H
    clear H
    have H := H1
    clear H1
    replace H := Option.bind_eq_some_iff.mp H
    obtain ⟨t182, A50, H⟩ := H
    replace H : (if t182 = true then ((tesseraref04_Group.f k a0 a1).bind fun t183 => (tesseralaw05_HalfCarries.l0 k a0 a1 t183 0 0)) else (some true)) = some r := H
    have A5 := Aside0.mk A50
    clear A50
    by_cases c6 : t182 = true
    · subst c6
      have H1 : ((tesseraref04_Group.f k a0 a1).bind fun t183 => (tesseralaw05_HalfCarries.l0 k a0 a1 t183 0 0)) = some r := by rw [if_pos rfl] at H; exact H
      clear H
      have H := H1
      clear H1
      replace H := Option.bind_eq_some_iff.mp H
      obtain ⟨t183, A70, H⟩ := H
      replace H : (tesseralaw05_HalfCarries.l0 k a0 a1 t183 0 0) = some r := H
      have A7 := Aside0.mk A70
      clear A70
      have H' := Aside0.mk H
      clear H
      go_enter Tryd.func3, Tryd.ntmps3
      go_wp2_with (first | ((with_reducible refine gate_callee (f := 10) rfl ?_); refine goesL_ (some 14) rfl rfl Tryd.func10 (by kernel_rfl) rfl #[] rfl (by (try simp only [List.map_toArray, List.map_cons, List.map_nil]); first | done | rfl | (simp only [List.length_drop, List.length_take]; rfl)) ?_; (with_reducible refine (tesseralaw05_alive.calls k  true _ A3.out (Sent.sub (show ∀ c, c ∈ tesseralaw05_alive.L → c ∈ tesseralaw05_HalfCarries.L by decide) (Sent.below HS.out (by repeat (first | (with_reducible first | exact HB.out | apply below_alloc | apply pw_below_drewN | apply below_drew1) | exact HB.out))))).mono ?_); rintro e w8 ⟨rfl, hb⟩; refine ⟨_, rfl, ?_⟩; have n0_ := Aside0.mk (below_step (by repeat (first | (with_reducible first | exact HB.out | apply below_alloc | apply pw_below_drewN | apply below_drew1) | exact HB.out)) hb); clear HB; have HB := n0_; clear n0_; (try clear hb); (try clear hb2); (try clear hk); (try clear hi)) | ((with_reducible refine gate_callee (f := 11) rfl ?_); refine goesL_ (some 18) rfl rfl Tryd.func11 (by kernel_rfl) rfl #[.int .i64 a0, .int .i64 a1] rfl (by (try simp only [List.map_toArray, List.map_cons, List.map_nil]); first | done | rfl | (simp only [List.length_drop, List.length_take]; rfl)) ?_; (with_reducible refine (tesseraref04_Legal.calls a0 a1 true _ A5.out).mono ?_); rintro e w' ⟨rfl, ⟨nd, rfl⟩⟩; refine ⟨_, rfl, ?_⟩) | ((with_reducible refine gate_callee (f := 12) rfl ?_); refine goesL_ (some 22) rfl rfl Tryd.func12 (by kernel_rfl) rfl #[.int .i64 a0, .int .i64 a1] rfl (by (try simp only [List.map_toArray, List.map_cons, List.map_nil]); first | done | rfl | (simp only [List.length_drop, List.length_take]; rfl)) ?_; (with_reducible refine (tesseraref04_Group.calls k a0 a1 t183 _ A7.out).mono ?_); rintro e w' ⟨rfl, ⟨nd, rfl⟩⟩; refine ⟨_, rfl, ?_⟩))
      go_loopg [6, 7] k (fun kq v6 v7 w' => ∃ (x6_1 : Int) (x7_1 : Int), v6 = .int .i64 x6_1 ∧ v7 = .int .i64 x7_1 ∧ Aside0 (tesseralaw05_HalfCarries.l0 kq a0 a1 t183 x6_1 x7_1 = some r) ∧ Aside0 (kq ≤ k) ∧ Aside0 (Below w.heap.size w w'))
      case atStart => exact ⟨(0), (0), (by first | rfl | (simp; done) | (simp [*]; done)), (by first | rfl | (simp; done) | (simp [*]; done)), H', ⟨Nat.le_refl _⟩, ⟨by repeat (first | (with_reducible first | exact HB.out | apply below_alloc | apply pw_below_drewN | apply below_drew1) | exact HB.out)⟩⟩
      case round =>
        clear H'
        try clear c1
        try clear p2
        try clear c3
        try clear c4
        try clear c6
        obtain ⟨x6_1, x7_1, rfl, rfl, HA, HK1, HB⟩ := hrel
        cases gk with
        | zero => exact absurd HA.out (by simp [tesseralaw05_HalfCarries.l0])
        | succ k1 =>
          have H := HA.out
          clear HA
          first | rw [tesseralaw05_HalfCarries.l0] at H | simp only [tesseralaw05_HalfCarries.l0] at H
          by_cases c9 : x7_1 < a1
          · rw [if_pos c9] at H
            have c9b0 : decide (x7_1 < a1) = true := decide_eq_true c9
            clear c9
            replace H := Option.bind_eq_some_iff.mp H
            obtain ⟨⟨t184, t185⟩, A100, H⟩ := H
            replace H : (if t185.isNone = true then (if (t184.length : Int) > t183 then (tesseralaw05_HalfCarries.j1 k1 a0 a1 t183 x6_1 x7_1 t184 true) else (if x7_1 = 0 then (tesseralaw05_HalfCarries.j1 k1 a0 a1 t183 x6_1 x7_1 t184 (decide ((t184.length : Int) > 0))) else (tesseralaw05_HalfCarries.j1 k1 a0 a1 t183 x6_1 x7_1 t184 false))) else (tesseralaw05_HalfCarries.j1 k1 a0 a1 t183 x6_1 x7_1 t184 true)) = some r := H
            have A10 := Aside0.mk A100
            clear A100
            have HC11 := Aside0.mk H
            clear H
            go_upto_region 11 with (first | ((with_reducible refine gate_callee (f := 13) rfl ?_); refine goesL_ (some 32) rfl rfl Tryd.func13 (by kernel_rfl) rfl #[.int .i64 a0, .int .i64 a1, .int .i64 x7_1] rfl (by (try simp only [List.map_toArray, List.map_cons, List.map_nil]); first | done | rfl | (simp only [List.length_drop, List.length_take]; rfl)) ?_; (with_reducible refine (half_Carried.calls k1 a0 a1 x7_1 t184 t185 _ A10.out (Sent.sub (show ∀ c, c ∈ half_Carried.L → c ∈ tesseralaw05_HalfCarries.L by decide) (Sent.below HS.out (by repeat (first | (with_reducible first | exact HB.out | apply below_alloc | apply pw_below_drewN | apply below_drew1) | exact HB.out))))).mono ?_); rintro e w12 ⟨v186, rfl, ho0, hb⟩; refine ⟨_, rfl, ?_⟩; have n0_ := Aside0.mk (Kd.R_lower ho0 (below_size (by repeat (first | (with_reducible first | exact HB.out | apply below_alloc | apply pw_below_drewN | apply below_drew1) | exact HB.out)))); have n1_ := Aside0.mk (below_step (by repeat (first | (with_reducible first | exact HB.out | apply below_alloc | apply pw_below_drewN | apply below_drew1) | exact HB.out)) hb); clear HB; have HO187 := n0_; have HB := n1_; clear n0_ n1_; (try clear hb); (try clear hb2); (try clear hk); (try clear hi); (try clear ho0); (try simp only [errW_none, errW_some])))
            (try simp only [Act.put, List.setIfInBounds_toArray, List.set_cons_zero, List.set_cons_succ])
            go_cut [51] (fun v51 wc => ∃ (kq : Nat) (x51_10 : Bool), v51 = .bool x51_10 ∧ Aside0 (tesseralaw05_HalfCarries.j1 kq a0 a1 t183 x6_1 x7_1 t184 x51_10 = some r) ∧ Aside0 (kq ≤ k1) ∧ Aside0 (Kd.R (Kd.int .i64) 3 wc w.heap.size (fun _ => True) v186 t184) ∧ Aside0 (Below w.heap.size w wc))
            case first =>
              have H := HC11.out
              clear HC11
              rcases t185 with _ | q188
              · have H1 : (if (t184.length : Int) > t183 then (tesseralaw05_HalfCarries.j1 k1 a0 a1 t183 x6_1 x7_1 t184 true) else (if x7_1 = 0 then (tesseralaw05_HalfCarries.j1 k1 a0 a1 t183 x6_1 x7_1 t184 (decide ((t184.length : Int) > 0))) else (tesseralaw05_HalfCarries.j1 k1 a0 a1 t183 x6_1 x7_1 t184 false))) = some r := by rw [if_pos (show (none : Option Int).isNone = true by rfl)] at H; exact H
                clear H
                have H := H1
                clear H1
                try simp only [errW_none, errW_some]
                by_cases c13 : (t184.length : Int) > t183
                · rw [if_pos c13] at H
                  have c13b0 : decide (t183 < (t184.length : Int)) = true := decide_eq_true c13
                  clear c13
                  (first | rw [c13b0] | (simp only [i64_w, i32_w]; rw [c13b0]) | skip)
                  have H' := Aside0.mk H
                  clear H
                  obtain ⟨Ao14, co14, eo14⟩ := Kd.R_slice HO187.out
                  subst eo14
                  go_wp2
                  go_meet
                  case rel => exact ⟨_, (true), (by first | rfl | (simp; done) | (simp [*]; done)), H', ⟨by have := HK1.out; first | omega | exact Nat.le_refl _⟩, ⟨by (with_reducible repeat (first | apply Kd.R_alloc | apply Kd.R_drewN | apply Kd.R_drew)); exact HO187.out⟩, ⟨by repeat (first | (with_reducible first | exact HB.out | apply below_alloc | apply pw_below_drewN | apply below_drew1) | exact HB.out)⟩⟩
                · rw [if_neg c13] at H
                  have c13b0 : decide (t183 < (t184.length : Int)) = false := decide_eq_false c13
                  clear c13
                  (first | rw [c13b0] | (simp only [i64_w, i32_w]; rw [c13b0]) | skip)
                  by_cases c15 : x7_1 = 0
                  · rw [if_pos c15] at H
                    have c15b0 : (x7_1 == 0) = true := beq_iff_eq.mpr c15
                    have c15b1 : (x7_1 != 0) = false := bne_eq_false_iff_eq.mpr c15
                    clear c15
                    have H' := Aside0.mk H
                    clear H
                    obtain ⟨Ao16, co16, eo16⟩ := Kd.R_slice HO187.out
                    subst eo16
                    go_wp2
                    go_meet
                    case rel => exact ⟨_, (decide ((t184.length : Int) > 0)), (by first | rfl | (simp; done) | (simp [*]; done)), H', ⟨by have := HK1.out; first | omega | exact Nat.le_refl _⟩, ⟨by (with_reducible repeat (first | apply Kd.R_alloc | apply Kd.R_drewN | apply Kd.R_drew)); exact HO187.out⟩, ⟨by repeat (first | (with_reducible first | exact HB.out | apply below_alloc | apply pw_below_drewN | apply below_drew1) | exact HB.out)⟩⟩
                  · rw [if_neg c15] at H
                    have c15b0 : (x7_1 == 0) = false := beq_eq_false_iff_ne.mpr c15
                    have c15b1 : (x7_1 != 0) = true := bne_iff_ne.mpr c15
                    have H' := Aside0.mk H
                    clear H
                    obtain ⟨Ao17, co17, eo17⟩ := Kd.R_slice HO187.out
                    subst eo17
                    go_wp2
                    go_meet
                    case rel => exact ⟨_, (false), (by first | rfl | (simp; done) | (simp [*]; done)), H', ⟨by have := HK1.out; first | omega | exact Nat.le_refl _⟩, ⟨by (with_reducible repeat (first | apply Kd.R_alloc | apply Kd.R_drewN | apply Kd.R_drew)); exact HO187.out⟩, ⟨by repeat (first | (with_reducible first | exact HB.out | apply below_alloc | apply pw_below_drewN | apply below_drew1) | exact HB.out)⟩⟩
              · have H1 : (tesseralaw05_HalfCarries.j1 k1 a0 a1 t183 x6_1 x7_1 t184 true) = some r := by rw [if_neg (show ¬ (some q188).isNone = true by simp)] at H; exact H
                clear H
                have H := H1
                clear H1
                try simp only [errW_none, errW_some]
                have H' := Aside0.mk H
                clear H
                go_wp2
                go_meet
                case rel => exact ⟨_, (true), (by first | rfl | (simp; done) | (simp [*]; done)), H', ⟨by have := HK1.out; first | omega | exact Nat.le_refl _⟩, ⟨by (with_reducible repeat (first | apply Kd.R_alloc | apply Kd.R_drewN | apply Kd.R_drew)); exact HO187.out⟩, ⟨by repeat (first | (with_reducible first | exact HB.out | apply below_alloc | apply pw_below_drewN | apply below_drew1) | exact HB.out)⟩⟩
            case rest =>
              clear HC11
              try clear c1
              try clear q1
              try clear p2
              try clear c3
              try clear c4
              try clear c6
              try clear c9
              try clear c9b0
              try clear c10
              try clear c11
              try clear c12
              try clear c13
              try clear c13b0
              try clear c15
              try clear c15b0
              try clear c15b1
              try clear p2
              try clear q188
              obtain ⟨kq, x51_10, rfl, HA, HJ10, HO_8, HB⟩ := hcut
              cases kq with
              | zero => exact absurd HA.out (by simp [tesseralaw05_HalfCarries.j1])
              | succ kj10 =>
                have H := HA.out
                clear HA
                first | rw [tesseralaw05_HalfCarries.j1] at H | simp only [tesseralaw05_HalfCarries.j1] at H
                by_cases c18 : x51_10 = true
                · subst c18
                  have H1 : (some false) = some r := by rw [if_pos rfl] at H; exact H
                  clear H
                  have H := H1
                  clear H1
                  obtain rfl := Option.some.inj H
                  go_wp2
                  go_ret
                  exact ⟨by first | rfl | (simp [errW_none, errW_some] <;> rfl) | (simp [*, errW_none, errW_some] <;> rfl), by repeat (first | (with_reducible first | exact HB.out | apply below_alloc | apply pw_below_drewN | apply below_drew1) | exact HB.out)⟩
                · replace c18 := Bool.eq_false_iff.mpr c18
                  subst c18
                  have H1 : (tesseralaw05_HalfCarries.l1 kj10 a0 a1 t183 x6_1 x7_1 t184 t184 (t184.length : Int) 0) = some r := by rw [if_neg (show ¬ (false = true) by decide)] at H; exact H
                  clear H
                  have H := H1
                  clear H1
                  have H' := Aside0.mk H
                  clear H
                  obtain ⟨Ao19, co19, eo19⟩ := Kd.R_slice HO_8.out
                  subst eo19
                  go_wp2
                  go_loopg [6, 54] kj10 (fun kq v6 v54 w' => ∃ (x6_3 : Int) (x54_3 : Int), v6 = .int .i64 x6_3 ∧ v54 = .int .i64 x54_3 ∧ Aside0 (tesseralaw05_HalfCarries.l1 kq a0 a1 t183 x6_3 x7_1 t184 t184 (t184.length : Int) x54_3 = some r) ∧ Aside0 (kq ≤ kj10) ∧ Aside0 (Kd.R (Kd.int .i64) 3 w' w.heap.size (fun _ => True) (.slice Ao19 t184.length co19) t184) ∧ Aside0 (Kd.R (Kd.int .i64) 3 w' w.heap.size (fun _ => True) (.slice Ao19 t184.length co19) t184) ∧ Aside0 (Below w.heap.size w w'))
                  case atStart => exact ⟨(x6_1), (0), (by first | rfl | (simp; done) | (simp [*]; done)), (by first | rfl | (simp; done) | (simp [*]; done)), H', ⟨Nat.le_refl _⟩, ⟨by (with_reducible repeat (first | apply Kd.R_alloc | apply Kd.R_drewN | apply Kd.R_drew)); exact HO_8.out⟩, ⟨by (with_reducible repeat (first | apply Kd.R_alloc | apply Kd.R_drewN | apply Kd.R_drew)); exact HO_8.out⟩, ⟨by repeat (first | (with_reducible first | exact HB.out | apply below_alloc | apply pw_below_drewN | apply below_drew1) | exact HB.out)⟩⟩
                  case round =>
                    clear H'
                    try clear c1
                    try clear q1
                    try clear p2
                    try clear c3
                    try clear c4
                    try clear c6
                    try clear c9
                    try clear c9b0
                    try clear c10
                    try clear c11
                    try clear c12
                    try clear c13
                    try clear c13b0
                    try clear c15
                    try clear c15b0
                    try clear c15b1
                    try clear c18
                    try clear q18
                    try clear p2
                    try clear q1
                    try clear q188
                    obtain ⟨x6_3, x54_3, rfl, rfl, HA, HK3, HO_8, HO_52, HB⟩ := hrel
                    cases gk with
                    | zero => exact absurd HA.out (by simp [tesseralaw05_HalfCarries.l1])
                    | succ k3 =>
                      have H := HA.out
                      clear HA
                      first | rw [tesseralaw05_HalfCarries.l1] at H | simp only [tesseralaw05_HalfCarries.l1] at H
                      by_cases c20 : x54_3 < (t184.length : Int)
                      · rw [if_pos c20] at H
                        have c20b0 : decide (x54_3 < (t184.length : Int)) = true := decide_eq_true c20
                        clear c20
                        by_cases c21 : 0 ≤ x54_3
                        · rw [if_pos c21] at H
                          have c21b0 : decide (0 ≤ x54_3) = true := decide_eq_true c21
                          clear c21
                          by_cases c22 : x54_3 < (t184.length : Int)
                          · rw [if_pos c22] at H
                            have c22b0 : decide (x54_3 < (t184.length : Int)) = true := decide_eq_true c22
                            clear c22
                            replace H := Option.bind_eq_some_iff.mp H
                            obtain ⟨⟨t190, t191⟩, A230, H⟩ := H
                            replace H : (if t191.isNone = true then (if t190 = x7_1 then (if x54_3 > 0 then (if 0 ≤ (wrap64 (x54_3 - 1)) then (if (wrap64 (x54_3 - 1)) < (t184.length : Int) then (if (rd t184 (wrap64 (x54_3 - 1))) ≥ (rd t184 x54_3) then (some false) else (tesseralaw05_HalfCarries.l1 k3 a0 a1 t183 (wrap64 (x6_3 + 1)) x7_1 t184 t184 (t184.length : Int) (wrap64 (x54_3 + 1)))) else (none)) else (none)) else (tesseralaw05_HalfCarries.l1 k3 a0 a1 t183 (wrap64 (x6_3 + 1)) x7_1 t184 t184 (t184.length : Int) (wrap64 (x54_3 + 1)))) else (some false)) else (some false)) = some r := H
                            have A23 := Aside0.mk A230
                            clear A230
                            rcases t191 with _ | q192
                            · have H1 : (if t190 = x7_1 then (if x54_3 > 0 then (if 0 ≤ (wrap64 (x54_3 - 1)) then (if (wrap64 (x54_3 - 1)) < (t184.length : Int) then (if (rd t184 (wrap64 (x54_3 - 1))) ≥ (rd t184 x54_3) then (some false) else (tesseralaw05_HalfCarries.l1 k3 a0 a1 t183 (wrap64 (x6_3 + 1)) x7_1 t184 t184 (t184.length : Int) (wrap64 (x54_3 + 1)))) else (none)) else (none)) else (tesseralaw05_HalfCarries.l1 k3 a0 a1 t183 (wrap64 (x6_3 + 1)) x7_1 t184 t184 (t184.length : Int) (wrap64 (x54_3 + 1)))) else (some false)) = some r := by rw [if_pos (show (none : Option Int).isNone = true by rfl)] at H; exact H
                              clear H
                              have H := H1
                              clear H1
                              try simp only [errW_none, errW_some]
                              by_cases c24 : t190 = x7_1
                              · rw [if_pos c24] at H
                                have c24b0 : (t190 == x7_1) = true := beq_iff_eq.mpr c24
                                have c24b1 : (t190 != x7_1) = false := bne_eq_false_iff_eq.mpr c24
                                clear c24
                                by_cases c25 : x54_3 > 0
                                · rw [if_pos c25] at H
                                  have c25b0 : decide (0 < x54_3) = true := decide_eq_true c25
                                  clear c25
                                  obtain ⟨ji26, hji26⟩ : ∃ j_ : Int, (wrap64 (x54_3 - 1)) = j_ := ⟨_, rfl⟩
                                  replace H : (if 0 ≤ (ji26) then (if (ji26) < (t184.length : Int) then (if (rd t184 (ji26)) ≥ (rd t184 x54_3) then (some false) else (tesseralaw05_HalfCarries.l1 k3 a0 a1 t183 (wrap64 (x6_3 + 1)) x7_1 t184 t184 (t184.length : Int) (wrap64 (x54_3 + 1)))) else (none)) else (none)) = some r := by first | (rw [hji26] at H; exact H) | (simp only [hji26] at H ⊢; exact H)
                                  (try rw [hji26] at A23)
                                  have hji26w : (IntKind.i64.wrap (x54_3 - 1)) = ji26 := (i64_w _).trans hji26
                                  by_cases c27 : 0 ≤ (ji26)
                                  · rw [if_pos c27] at H
                                    have c27b0 : decide (0 ≤ (ji26)) = true := decide_eq_true c27
                                    clear c27
                                    by_cases c28 : (ji26) < (t184.length : Int)
                                    · rw [if_pos c28] at H
                                      have c28b0 : decide ((ji26) < (t184.length : Int)) = true := decide_eq_true c28
                                      clear c28
                                      by_cases c29 : (rd t184 (ji26)) ≥ (rd t184 x54_3)
                                      · rw [if_pos c29] at H
                                        have c29b0 : decide ((rd t184 x54_3) ≤ (rd t184 (ji26))) = true := decide_eq_true c29
                                        clear c29
                                        obtain rfl := Option.some.inj H
                                        have p189 : 0 ≤ (x54_3 : Int) := of_decide_eq_true (by first | (with_reducible assumption) | assumption)
                                        have q189 : x54_3 < (t184.length : Int) := of_decide_eq_true (by first | (with_reducible assumption) | assumption)
                                        obtain ⟨ad189, e189, hx189_0⟩ := Kd.at_int (Kd.R_reads' HO_52.out).2.2 x54_3 p189 q189
                                        cases e189
                                        replace p189 := eq_true p189
                                        replace q189 := eq_true q189
                                        go_wp2_with (first | ((with_reducible refine gate_callee (f := 14) rfl ?_); refine goesL_ (some 63) rfl rfl Tryd.func14 (by kernel_rfl) rfl #[.int .i64 a0, .int .i64 a1, .int .i64 (rd t184 x54_3)] rfl (by (try simp only [List.map_toArray, List.map_cons, List.map_nil]); first | done | rfl | (simp only [List.length_drop, List.length_take]; rfl)) ?_; (with_reducible refine (half_Carrier.calls a0 a1 (rd t184 x54_3) t190 none _ A23.out (Sent.sub (show ∀ c, c ∈ half_Carrier.L → c ∈ tesseralaw05_HalfCarries.L by decide) (Sent.below HS.out (by repeat (first | (with_reducible first | exact HB.out | apply below_alloc | apply pw_below_drewN | apply below_drew1) | exact HB.out))))).mono ?_); rintro e w' ⟨rfl, ⟨nd, rfl⟩⟩; refine ⟨_, rfl, ?_⟩; (try simp only [errW_none, errW_some]); have p193 : 0 ≤ ((ji26) : Int) := of_decide_eq_true (by first | (with_reducible assumption) | assumption); have q193 : (ji26) < (t184.length : Int) := of_decide_eq_true (by first | (with_reducible assumption) | assumption); obtain ⟨ad193, e193, hx193_0⟩ := Kd.at_int (Kd.R_reads' HO_8.out).2.2 (ji26) p193 q193; obtain rfl : ad189 = ad193 := (by injection e193); replace p193 := eq_true p193; replace q193 := eq_true q193))
                                        go_ret
                                        exact ⟨by first | rfl | (simp [errW_none, errW_some] <;> rfl) | (simp only [← hji26]; first | rfl | (simp [errW_none, errW_some] <;> rfl)) | (simp [*, errW_none, errW_some] <;> rfl), by repeat (first | (with_reducible first | exact HB.out | apply below_alloc | apply pw_below_drewN | apply below_drew1) | exact HB.out)⟩
                                      · rw [if_neg c29] at H
                                        have c29b0 : decide ((rd t184 x54_3) ≤ (rd t184 (ji26))) = false := decide_eq_false c29
                                        clear c29
                                        have H' := Aside0.mk H
                                        clear H
                                        have p189 : 0 ≤ (x54_3 : Int) := of_decide_eq_true (by first | (with_reducible assumption) | assumption)
                                        have q189 : x54_3 < (t184.length : Int) := of_decide_eq_true (by first | (with_reducible assumption) | assumption)
                                        obtain ⟨ad189, e189, hx189_0⟩ := Kd.at_int (Kd.R_reads' HO_52.out).2.2 x54_3 p189 q189
                                        cases e189
                                        replace p189 := eq_true p189
                                        replace q189 := eq_true q189
                                        go_wp2_with (first | ((with_reducible refine gate_callee (f := 14) rfl ?_); refine goesL_ (some 63) rfl rfl Tryd.func14 (by kernel_rfl) rfl #[.int .i64 a0, .int .i64 a1, .int .i64 (rd t184 x54_3)] rfl (by (try simp only [List.map_toArray, List.map_cons, List.map_nil]); first | done | rfl | (simp only [List.length_drop, List.length_take]; rfl)) ?_; (with_reducible refine (half_Carrier.calls a0 a1 (rd t184 x54_3) t190 none _ A23.out (Sent.sub (show ∀ c, c ∈ half_Carrier.L → c ∈ tesseralaw05_HalfCarries.L by decide) (Sent.below HS.out (by repeat (first | (with_reducible first | exact HB.out | apply below_alloc | apply pw_below_drewN | apply below_drew1) | exact HB.out))))).mono ?_); rintro e w' ⟨rfl, ⟨nd, rfl⟩⟩; refine ⟨_, rfl, ?_⟩; (try simp only [errW_none, errW_some]); have p193 : 0 ≤ ((ji26) : Int) := of_decide_eq_true (by first | (with_reducible assumption) | assumption); have q193 : (ji26) < (t184.length : Int) := of_decide_eq_true (by first | (with_reducible assumption) | assumption); obtain ⟨ad193, e193, hx193_0⟩ := Kd.at_int (Kd.R_reads' HO_8.out).2.2 (ji26) p193 q193; obtain rfl : ad189 = ad193 := (by injection e193); replace p193 := eq_true p193; replace q193 := eq_true q193))
                                        go_roundg k3
                                        case measure => have := HK1.out; have := HJ10.out; have := HK3.out; omega
                                        case rel => exact ⟨(wrap64 (x6_3 + 1)), (wrap64 (x54_3 + 1)), (by first | rfl | (simp; done) | (simp [*]; done)), (by first | rfl | (simp; done) | (simp [*]; done)), H', ⟨by have := HK1.out; have := HJ10.out; have := HK3.out; omega⟩, ⟨by (with_reducible repeat (first | apply Kd.R_alloc | apply Kd.R_drewN | apply Kd.R_drew)); exact HO_8.out⟩, ⟨by (with_reducible repeat (first | apply Kd.R_alloc | apply Kd.R_drewN | apply Kd.R_drew)); exact HO_52.out⟩, ⟨by repeat (first | (with_reducible first | exact HB.out | apply below_alloc | apply pw_below_drewN | apply below_drew1) | exact HB.out)⟩⟩
                                    · rw [if_neg c28] at H
                                      exact absurd H (by simp)
                                  · rw [if_neg c27] at H
                                    exact absurd H (by simp)
                                · rw [if_neg c25] at H
                                  have c25b0 : decide (0 < x54_3) = false := decide_eq_false c25
                                  clear c25
                                  have H' := Aside0.mk H
                                  clear H
                                  have p189 : 0 ≤ (x54_3 : Int) := of_decide_eq_true (by first | (with_reducible assumption) | assumption)
                                  have q189 : x54_3 < (t184.length : Int) := of_decide_eq_true (by first | (with_reducible assumption) | assumption)
                                  obtain ⟨ad189, e189, hx189_0⟩ := Kd.at_int (Kd.R_reads' HO_52.out).2.2 x54_3 p189 q189
                                  cases e189
                                  replace p189 := eq_true p189
                                  replace q189 := eq_true q189
                                  go_wp2_with (first | ((with_reducible refine gate_callee (f := 14) rfl ?_); refine goesL_ (some 63) rfl rfl Tryd.func14 (by kernel_rfl) rfl #[.int .i64 a0, .int .i64 a1, .int .i64 (rd t184 x54_3)] rfl (by (try simp only [List.map_toArray, List.map_cons, List.map_nil]); first | done | rfl | (simp only [List.length_drop, List.length_take]; rfl)) ?_; (with_reducible refine (half_Carrier.calls a0 a1 (rd t184 x54_3) t190 none _ A23.out (Sent.sub (show ∀ c, c ∈ half_Carrier.L → c ∈ tesseralaw05_HalfCarries.L by decide) (Sent.below HS.out (by repeat (first | (with_reducible first | exact HB.out | apply below_alloc | apply pw_below_drewN | apply below_drew1) | exact HB.out))))).mono ?_); rintro e w' ⟨rfl, ⟨nd, rfl⟩⟩; refine ⟨_, rfl, ?_⟩; (try simp only [errW_none, errW_some])))
                                  go_roundg k3
                                  case measure => have := HK1.out; have := HJ10.out; have := HK3.out; omega
                                  case rel => exact ⟨(wrap64 (x6_3 + 1)), (wrap64 (x54_3 + 1)), (by first | rfl | (simp; done) | (simp [*]; done)), (by first | rfl | (simp; done) | (simp [*]; done)), H', ⟨by have := HK1.out; have := HJ10.out; have := HK3.out; omega⟩, ⟨by (with_reducible repeat (first | apply Kd.R_alloc | apply Kd.R_drewN | apply Kd.R_drew)); exact HO_8.out⟩, ⟨by (with_reducible repeat (first | apply Kd.R_alloc | apply Kd.R_drewN | apply Kd.R_drew)); exact HO_52.out⟩, ⟨by repeat (first | (with_reducible first | exact HB.out | apply below_alloc | apply pw_below_drewN | apply below_drew1) | exact HB.out)⟩⟩
                              · rw [if_neg c24] at H
                                have c24b0 : (t190 == x7_1) = false := beq_eq_false_iff_ne.mpr c24
                                have c24b1 : (t190 != x7_1) = true := bne_iff_ne.mpr c24
                                obtain rfl := Option.some.inj H
                                have p189 : 0 ≤ (x54_3 : Int) := of_decide_eq_true (by first | (with_reducible assumption) | assumption)
                                have q189 : x54_3 < (t184.length : Int) := of_decide_eq_true (by first | (with_reducible assumption) | assumption)
                                obtain ⟨ad189, e189, hx189_0⟩ := Kd.at_int (Kd.R_reads' HO_52.out).2.2 x54_3 p189 q189
                                cases e189
                                replace p189 := eq_true p189
                                replace q189 := eq_true q189
                                go_wp2_with (first | ((with_reducible refine gate_callee (f := 14) rfl ?_); refine goesL_ (some 63) rfl rfl Tryd.func14 (by kernel_rfl) rfl #[.int .i64 a0, .int .i64 a1, .int .i64 (rd t184 x54_3)] rfl (by (try simp only [List.map_toArray, List.map_cons, List.map_nil]); first | done | rfl | (simp only [List.length_drop, List.length_take]; rfl)) ?_; (with_reducible refine (half_Carrier.calls a0 a1 (rd t184 x54_3) t190 none _ A23.out (Sent.sub (show ∀ c, c ∈ half_Carrier.L → c ∈ tesseralaw05_HalfCarries.L by decide) (Sent.below HS.out (by repeat (first | (with_reducible first | exact HB.out | apply below_alloc | apply pw_below_drewN | apply below_drew1) | exact HB.out))))).mono ?_); rintro e w' ⟨rfl, ⟨nd, rfl⟩⟩; refine ⟨_, rfl, ?_⟩; (try simp only [errW_none, errW_some])))
                                go_ret
                                exact ⟨by first | rfl | (simp [errW_none, errW_some] <;> rfl) | (simp [*, errW_none, errW_some] <;> rfl), by repeat (first | (with_reducible first | exact HB.out | apply below_alloc | apply pw_below_drewN | apply below_drew1) | exact HB.out)⟩
                            · have H1 : (some false) = some r := by rw [if_neg (show ¬ (some q192).isNone = true by simp)] at H; exact H
                              clear H
                              have H := H1
                              clear H1
                              try simp only [errW_none, errW_some]
                              obtain rfl := Option.some.inj H
                              have p189 : 0 ≤ (x54_3 : Int) := of_decide_eq_true (by first | (with_reducible assumption) | assumption)
                              have q189 : x54_3 < (t184.length : Int) := of_decide_eq_true (by first | (with_reducible assumption) | assumption)
                              obtain ⟨ad189, e189, hx189_0⟩ := Kd.at_int (Kd.R_reads' HO_52.out).2.2 x54_3 p189 q189
                              cases e189
                              replace p189 := eq_true p189
                              replace q189 := eq_true q189
                              go_wp2_with (first | ((with_reducible refine gate_callee (f := 14) rfl ?_); refine goesL_ (some 63) rfl rfl Tryd.func14 (by kernel_rfl) rfl #[.int .i64 a0, .int .i64 a1, .int .i64 (rd t184 x54_3)] rfl (by (try simp only [List.map_toArray, List.map_cons, List.map_nil]); first | done | rfl | (simp only [List.length_drop, List.length_take]; rfl)) ?_; (with_reducible refine (half_Carrier.calls a0 a1 (rd t184 x54_3) t190 (some q192) _ A23.out (Sent.sub (show ∀ c, c ∈ half_Carrier.L → c ∈ tesseralaw05_HalfCarries.L by decide) (Sent.below HS.out (by repeat (first | (with_reducible first | exact HB.out | apply below_alloc | apply pw_below_drewN | apply below_drew1) | exact HB.out))))).mono ?_); rintro e w' ⟨rfl, ⟨nd, rfl⟩⟩; refine ⟨_, rfl, ?_⟩; (try simp only [errW_none, errW_some])))
                              go_ret
                              exact ⟨by first | rfl | (simp [errW_none, errW_some] <;> rfl) | (simp [*, errW_none, errW_some] <;> rfl), by repeat (first | (with_reducible first | exact HB.out | apply below_alloc | apply pw_below_drewN | apply below_drew1) | exact HB.out)⟩
                          · rw [if_neg c22] at H
                            exact absurd H (by simp)
                        · rw [if_neg c21] at H
                          exact absurd H (by simp)
                      · rw [if_neg c20] at H
                        have c20b0 : decide (x54_3 < (t184.length : Int)) = false := decide_eq_false c20
                        clear c20
                        have H' := Aside0.mk H
                        clear H
                        go_wp2
                        go_roundg k3
                        case measure => have := HK1.out; have := HJ10.out; have := HK3.out; omega
                        case rel => exact ⟨(x6_3), (wrap64 (x7_1 + 1)), (by first | rfl | (simp; done) | (simp [*]; done)), (by first | rfl | (simp; done) | (simp [*]; done)), H', ⟨by have := HK1.out; have := HJ10.out; have := HK3.out; omega⟩, ⟨by repeat (first | (with_reducible first | exact HB.out | apply below_alloc | apply pw_below_drewN | apply below_drew1) | exact HB.out)⟩⟩
          · rw [if_neg c9] at H
            have c9b0 : decide (x7_1 < a1) = false := decide_eq_false c9
            clear c9
            obtain rfl := Option.some.inj H
            go_wp2
            go_ret
            exact ⟨by first | rfl | (simp [errW_none, errW_some] <;> rfl) | (simp [*, errW_none, errW_some] <;> rfl), by repeat (first | (with_reducible first | exact HB.out | apply below_alloc | apply pw_below_drewN | apply below_drew1) | exact HB.out)⟩
    · replace c6 := Bool.eq_false_iff.mpr c6
      subst c6
      have H1 : (some true) = some r := by rw [if_neg (show ¬ (false = true) by decide)] at H; exact H
      clear H
      have H := H1
      clear H1
      obtain rfl := Option.some.inj H
      go_enter Tryd.func3, Tryd.ntmps3
      go_wp2_with (first | ((with_reducible refine gate_callee (f := 10) rfl ?_); refine goesL_ (some 14) rfl rfl Tryd.func10 (by kernel_rfl) rfl #[] rfl (by (try simp only [List.map_toArray, List.map_cons, List.map_nil]); first | done | rfl | (simp only [List.length_drop, List.length_take]; rfl)) ?_; (with_reducible refine (tesseralaw05_alive.calls k  true _ A3.out (Sent.sub (show ∀ c, c ∈ tesseralaw05_alive.L → c ∈ tesseralaw05_HalfCarries.L by decide) (Sent.below HS.out (by repeat (first | (with_reducible first | exact HB.out | apply below_alloc | apply pw_below_drewN | apply below_drew1) | exact HB.out))))).mono ?_); rintro e w30 ⟨rfl, hb⟩; refine ⟨_, rfl, ?_⟩; have n0_ := Aside0.mk (below_step (by repeat (first | (with_reducible first | exact HB.out | apply below_alloc | apply pw_below_drewN | apply below_drew1) | exact HB.out)) hb); clear HB; have HB := n0_; clear n0_; (try clear hb); (try clear hb2); (try clear hk); (try clear hi)) | ((with_reducible refine gate_callee (f := 11) rfl ?_); refine goesL_ (some 18) rfl rfl Tryd.func11 (by kernel_rfl) rfl #[.int .i64 a0, .int .i64 a1] rfl (by (try simp only [List.map_toArray, List.map_cons, List.map_nil]); first | done | rfl | (simp only [List.length_drop, List.length_take]; rfl)) ?_; (with_reducible refine (tesseraref04_Legal.calls a0 a1 false _ A5.out).mono ?_); rintro e w' ⟨rfl, ⟨nd, rfl⟩⟩; refine ⟨_, rfl, ?_⟩))
      go_ret
      exact ⟨by first | rfl | (simp [errW_none, errW_some] <;> rfl) | (simp [*, errW_none, errW_some] <;> rfl), by repeat (first | (with_reducible first | exact HB.out | apply below_alloc | apply pw_below_drewN | apply below_drew1) | exact HB.out)⟩
  · replace c4 := Bool.eq_false_iff.mpr c4
    subst c4
    have H1 : (some false) = some r := by rw [if_neg (show ¬ (false = true) by decide)] at H; exact H
    clear H
    have H := H1
    clear H1
    obtain rfl := Option.some.inj H
    go_enter Tryd.func3, Tryd.ntmps3
    go_wp2_with (first | ((with_reducible refine gate_callee (f := 10) rfl ?_); refine goesL_ (some 14) rfl rfl Tryd.func10 (by kernel_rfl) rfl #[] rfl (by (try simp only [List.map_toArray, List.map_cons, List.map_nil]); first | done | rfl | (simp only [List.length_drop, List.length_take]; rfl)) ?_; (with_reducible refine (tesseralaw05_alive.calls k  false _ A3.out (Sent.sub (show ∀ c, c ∈ tesseralaw05_alive.L → c ∈ tesseralaw05_HalfCarries.L by decide) (Sent.below HS.out (by repeat (first | (with_reducible first | exact HB.out | apply below_alloc | apply pw_below_drewN | apply below_drew1) | exact HB.out))))).mono ?_); rintro e w31 ⟨rfl, hb⟩; refine ⟨_, rfl, ?_⟩; have n0_ := Aside0.mk (below_step (by repeat (first | (with_reducible first | exact HB.out | apply below_alloc | apply pw_below_drewN | apply below_drew1) | exact HB.out)) hb); clear HB; have HB := n0_; clear n0_; (try clear hb); (try clear hb2); (try clear hk); (try clear hi)))
    go_ret
    exact ⟨by first | rfl | (simp [errW_none, errW_some] <;> rfl) | (simp [*, errW_none, errW_some] <;> rfl), by repeat (first | (with_reducible first | exact HB.out | apply below_alloc | apply pw_below_drewN | apply below_drew1) | exact HB.out)⟩

end Go.Proofs.YtnnondbimdmcaaaDoor.F
