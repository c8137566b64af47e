-- Written by eprint.py, a program of this session, over the kit's printer. Lean checks it.
import Derived.Test.YtnnondbimdmcaaaDoorF0
import Derived.Test.YtnnondbimdmcaaaDoorF10
import Derived.Test.YtnnondbimdmcaaaDoorF11
import Derived.Test.YtnnondbimdmcaaaDoorF15
import Derived.Test.YtnnondbimdmcaaaDoorF16
import Derived.Test.YtnnondbimdmcaaaDoorF24
import Derived.Test.YtnnondbimdmcaaaDoorF25
namespace Go.Proofs.YtnnondbimdmcaaaDoor.F
open Go.RowKit Go.Proofs.YtnnondbimdmcaaaDoorW.PrintWords Go.Proofs.YtnnondbimdmcaaaDoorW.PrintLast Go.Proofs.YtnnondbimdmcaaaDoorW.PrintMore
attribute [local go_sem] max2_int min2_int max_two min_two max_three min_three max_four min_four   -- for this text's walks alone
set_option linter.unusedVariables false
set_option linter.unusedSimpArgs false
set_option linter.unusedSectionVars false
open Go.Proofs.YtnnondbimdmcaaaDoor
variable [Errs]

/-! ### tesseralaw05_HalfCount: function 7 -/
def tesseralaw05_HalfCount.L : List Int := [1, 4, 12]
mutual
def tesseralaw05_HalfCount.l0 : Nat → Int → Int → List ByteArray → Int → Option (Bool)
  | 0, _, _, _, _ => none
  | k + 1, x0, x1, x7, x8 => if x8 < (wrap64 (2 * (wrap64 (x0 + x1)))) then ((half_Name.f x0 x1 x8).bind fun bt256 => ((half_Parse.f k x0 x1 bt256.1).bind fun bt258 => ((half_Split.f x0 x1 x8).bind fun bt260 => ((half_Of.f x0 x1 bt260.1 bt260.2.1).bind fun bt263 => (if ((isNil bt256.2) = true) then (if ((isNil bt258.2) = true) then (if ((isNil bt260.2.2) = true) then (if ((isNil bt263.2) = true) then (if bt258.1 = x8 then (if bt263.1 = x8 then (tesseralaw05_HalfCount.j1 k x0 x1 x7 x8 bt256.1 (decide ((bt256.1.size : Int) < 3))) else (tesseralaw05_HalfCount.j1 k x0 x1 x7 x8 bt256.1 true)) else (tesseralaw05_HalfCount.j1 k x0 x1 x7 x8 bt256.1 true)) else (tesseralaw05_HalfCount.j1 k x0 x1 x7 x8 bt256.1 true)) else (tesseralaw05_HalfCount.j1 k x0 x1 x7 x8 bt256.1 true)) else (tesseralaw05_HalfCount.j1 k x0 x1 x7 x8 bt256.1 true)) else (tesseralaw05_HalfCount.j1 k x0 x1 x7 x8 bt256.1 true)))))) else (some true)
def tesseralaw05_HalfCount.j1 : Nat → Int → Int → List ByteArray → Int → ByteArray → Bool → Option (Bool)
  | 0, _, _, _, _, _, _ => none
  | k + 1, x0, x1, x7, x8, x9, x101 => if x101 = true then (some false) else (tesseralaw05_HalfCount.l1 k x0 x1 x7 x8 x9 x7 (x7.length : Int) 0)
def tesseralaw05_HalfCount.l1 : Nat → Int → Int → List ByteArray → Int → ByteArray → List ByteArray → Int → Int → Option (Bool)
  | 0, _, _, _, _, _, _, _, _ => none
  | k + 1, x0, x1, x7, x8, x9, x102, x103, x104 => if x104 < x103 then (if 0 ≤ x104 then (if x104 < (x102.length : Int) then (if (rdOf ByteArray.empty x102 x104).toList = x9.toList then (some false) else (tesseralaw05_HalfCount.l1 k x0 x1 x7 x8 x9 x102 x103 (wrap64 (x104 + 1)))) else (none)) else (none)) else (if x7.length < 8796093022208 then (tesseralaw05_HalfCount.l0 k x0 x1 (x7 ++ [x9]) (wrap64 (x8 + 1))) else (none))
end
def tesseralaw05_HalfCount.f (k : Nat) (a0 : Int) (a1 : Int) : Option (Bool) := (tesseralaw05_alive.f k).bind fun t249 => (if t249 = true then ((tesseraref04_Legal.f a0 a1).bind fun t250 => (if t250 = true then (tesseralaw05_HalfCount.l0 k a0 a1 (([] : List ByteArray)) 0) else ((half_Name.f a0 a1 0).bind fun bt251 => (some (!(isNil bt251.2)))))) else (some false))
theorem tesseralaw05_HalfCount.mono_l : ∀ k, (∀ y0 y1 y2 y3, LeO (tesseralaw05_HalfCount.l0 k y0 y1 y2 y3) (tesseralaw05_HalfCount.l0 (k + 1) y0 y1 y2 y3)) ∧ (∀ y0 y1 y2 y3 y4 y5, LeO (tesseralaw05_HalfCount.j1 k y0 y1 y2 y3 y4 y5) (tesseralaw05_HalfCount.j1 (k + 1) y0 y1 y2 y3 y4 y5)) ∧ (∀ y0 y1 y2 y3 y4 y5 y6 y7, LeO (tesseralaw05_HalfCount.l1 k y0 y1 y2 y3 y4 y5 y6 y7) (tesseralaw05_HalfCount.l1 (k + 1) y0 y1 y2 y3 y4 y5 y6 y7))
  | 0 => ⟨fun _ _ _ _ r h => by simp [tesseralaw05_HalfCount.l0] at h, fun _ _ _ _ _ _ r h => by simp [tesseralaw05_HalfCount.j1] at h, fun _ _ _ _ _ _ _ _ r h => by simp [tesseralaw05_HalfCount.l1] at h⟩
  | k + 1 => by
    obtain ⟨ih0, ih1, ih2⟩ := tesseralaw05_HalfCount.mono_l k
    refine ⟨?_, ?_, ?_⟩
    · intro y0 y1 y2 y3
      unfold tesseralaw05_HalfCount.l0
      repeat' first
      | (with_reducible exact ih0 _ _ _ _)
      | (with_reducible exact ih1 _ _ _ _ _ _)
      | (with_reducible exact ih2 _ _ _ _ _ _ _ _)
      | (with_reducible exact half_Parse.mono _ _ _ _)
      | (with_reducible exact tesseralaw05_alive.mono _)
      | (with_reducible exact LeO.refl _)
      | (with_reducible exact LeO.none _)
      | (with_reducible refine LeO.ite ?_ ?_)
      | (with_reducible refine LeO.bind ?_ (fun _ => ?_))
      | exact ih0 _ _ _ _
      | exact ih1 _ _ _ _ _ _
      | exact ih2 _ _ _ _ _ _ _ _
      | exact half_Parse.mono _ _ _ _
      | exact tesseralaw05_alive.mono _
      | exact LeO.none _
      | refine LeO.ite ?_ ?_
      | refine LeO.bind ?_ (fun _ => ?_)
    · intro y0 y1 y2 y3 y4 y5
      unfold tesseralaw05_HalfCount.j1
      repeat' first
      | (with_reducible exact ih0 _ _ _ _)
      | (with_reducible exact ih1 _ _ _ _ _ _)
      | (with_reducible exact ih2 _ _ _ _ _ _ _ _)
      | (with_reducible exact half_Parse.mono _ _ _ _)
      | (with_reducible exact tesseralaw05_alive.mono _)
      | (with_reducible exact LeO.refl _)
      | (with_reducible exact LeO.none _)
      | (with_reducible refine LeO.ite ?_ ?_)
      | (with_reducible refine LeO.bind ?_ (fun _ => ?_))
      | exact ih0 _ _ _ _
      | exact ih1 _ _ _ _ _ _
      | exact ih2 _ _ _ _ _ _ _ _
      | exact half_Parse.mono _ _ _ _
      | exact tesseralaw05_alive.mono _
      | exact LeO.none _
      | refine LeO.ite ?_ ?_
      | refine LeO.bind ?_ (fun _ => ?_)
    · intro y0 y1 y2 y3 y4 y5 y6 y7
      unfold tesseralaw05_HalfCount.l1
      repeat' first
      | (with_reducible exact ih0 _ _ _ _)
      | (with_reducible exact ih1 _ _ _ _ _ _)
      | (with_reducible exact ih2 _ _ _ _ _ _ _ _)
      | (with_reducible exact half_Parse.mono _ _ _ _)
      | (with_reducible exact tesseralaw05_alive.mono _)
      | (with_reducible exact LeO.refl _)
      | (with_reducible exact LeO.none _)
      | (with_reducible refine LeO.ite ?_ ?_)
      | (with_reducible refine LeO.bind ?_ (fun _ => ?_))
      | exact ih0 _ _ _ _
      | exact ih1 _ _ _ _ _ _
      | exact ih2 _ _ _ _ _ _ _ _
      | exact half_Parse.mono _ _ _ _
      | exact tesseralaw05_alive.mono _
      | exact LeO.none _
      | refine LeO.ite ?_ ?_
      | refine LeO.bind ?_ (fun _ => ?_)
theorem tesseralaw05_HalfCount.mono : ∀ a0 a1 k, LeO (tesseralaw05_HalfCount.f k a0 a1) (tesseralaw05_HalfCount.f (k + 1) a0 a1) := by
  intro a0 a1 k
  obtain ⟨ih0, ih1, ih2⟩ := tesseralaw05_HalfCount.mono_l k
  unfold tesseralaw05_HalfCount.f
  repeat' first
      | (with_reducible exact ih0 _ _ _ _)
      | (with_reducible exact ih1 _ _ _ _ _ _)
      | (with_reducible exact ih2 _ _ _ _ _ _ _ _)
      | (with_reducible exact half_Parse.mono _ _ _ _)
      | (with_reducible exact tesseralaw05_alive.mono _)
      | (with_reducible exact LeO.refl _)
      | (with_reducible exact LeO.none _)
      | (with_reducible refine LeO.ite ?_ ?_)
      | (with_reducible refine LeO.bind ?_ (fun _ => ?_))
      | exact ih0 _ _ _ _
      | exact ih1 _ _ _ _ _ _
      | exact ih2 _ _ _ _ _ _ _ _
      | exact half_Parse.mono _ _ _ _
      | exact tesseralaw05_alive.mono _
      | exact LeO.none _
      | refine LeO.ite ?_ ?_
      | refine LeO.bind ?_ (fun _ => ?_)
set_option maxHeartbeats 8000000 in
set_option maxRecDepth 100000 in
theorem tesseralaw05_HalfCount.calls (k : Nat) (a0 : Int) (a1 : Int) (r : Bool) (w : World) (h : tesseralaw05_HalfCount.f k a0 a1 = some r) (hS : Sent tesseralaw05_HalfCount.L w) :
    Calls Tryd.prog 7 #[.int .i64 a0, .int .i64 a1] w fun e w' => e = .returned (.bool r) ∧ Below w.heap.size w w' := by
  have hu27 := Tryd.underlying27
  have HB := Aside0.mk (Below.refl w.heap.size w)
  have HS := Aside0.mk hS
  clear hS
  have H : ((tesseralaw05_alive.f k).bind fun t249 => (if t249 = true then ((tesseraref04_Legal.f a0 a1).bind fun t250 => (if t250 = true then (tesseralaw05_HalfCount.l0 k a0 a1 (([] : List ByteArray)) 0) else ((half_Name.f a0 a1 0).bind fun bt251 => (some (!(isNil bt251.2)))))) else (some false))) = some r := h
  clear h
  replace H := Option.bind_eq_some_iff.mp H
  obtain ⟨t249, A30, H⟩ := H
  replace H : (if t249 = true then ((tesseraref04_Legal.f a0 a1).bind fun t250 => (if t250 = true then (tesseralaw05_HalfCount.l0 k a0 a1 (([] : List ByteArray)) 0) else ((half_Name.f a0 a1 0).bind fun bt251 => (some (!(isNil bt251.2)))))) else (some false)) = some r := H
  have A3 := Aside0.mk A30
  clear A30
  by_cases c4 : t249 = true
  · subst c4
    have H1 : ((tesseraref04_Legal.f a0 a1).bind fun t250 => (if t250 = true then (tesseralaw05_HalfCount.l0 k a0 a1 (([] : List ByteArray)) 0) else ((half_Name.f a0 a1 0).bind fun bt251 => (some (!(isNil bt251.2)))))) = some r := by rw [if_pos rfl] at H; exact H
    clear H
    have H := H1
    clear H1
    replace H := Option.bind_eq_some_iff.mp H
    obtain ⟨t250, A50, H⟩ := H
    replace H : (if t250 = true then (tesseralaw05_HalfCount.l0 k a0 a1 (([] : List ByteArray)) 0) else ((half_Name.f a0 a1 0).bind fun bt251 => (some (!(isNil bt251.2))))) = some r := H
    have A5 := Aside0.mk A50
    clear A50
    by_cases c6 : t250 = true
    · subst c6
      have H1 : (tesseralaw05_HalfCount.l0 k a0 a1 (([] : List ByteArray)) 0) = some r := by rw [if_pos rfl] at H; exact H
      clear H
      have H := H1
      clear H1
      obtain ⟨y253, hy253⟩ : ∃ y_ : List ByteArray, y_ = (([] : List ByteArray)) := ⟨_, rfl⟩
      replace H : (tesseralaw05_HalfCount.l0 k a0 a1 y253 0) = some r := by first | (rw [hy253]; with_reducible exact H) | (have H2_ := (Option.bind_some _ _).symm.trans H; rw [hy253]; with_reducible exact H2_) | (have H2_ := (Option.bind_some _ _).symm.trans H; with_reducible exact H2_) | with_reducible exact H | (rw [hy253]; exact H) | exact H
      have Ny253 := Aside0.mk hy253
      clear hy253
      have H' := Aside0.mk H
      clear H
      go_enter Tryd.func7, Tryd.ntmps7
      go_wp2_with (first | ((with_reducible refine gate_callee (f := 10) rfl ?_); refine goesL_ (some 20) rfl rfl Tryd.func10 (by kernel_rfl) rfl #[] rfl (by (try simp only [List.map_toArray, List.map_cons, List.map_nil]); first | done | rfl | (simp only [List.length_drop, List.length_take]; rfl)) ?_; (with_reducible refine (tesseralaw05_alive.calls k  true _ A3.out (Sent.sub (show ∀ c, c ∈ tesseralaw05_alive.L → c ∈ tesseralaw05_HalfCount.L by decide) (Sent.below HS.out (by repeat (first | (with_reducible first | exact HB.out | apply below_alloc | apply pw_below_drewN | apply below_drew1) | exact HB.out))))).mono ?_); rintro e w7 ⟨rfl, hb⟩; refine ⟨_, rfl, ?_⟩; have n0_ := Aside0.mk (below_step (by repeat (first | (with_reducible first | exact HB.out | apply below_alloc | apply pw_below_drewN | apply below_drew1) | exact HB.out)) hb); clear HB; have HB := n0_; clear n0_; (try clear hb); (try clear hb2); (try clear hk); (try clear hi)) | ((with_reducible refine gate_callee (f := 11) rfl ?_); refine goesL_ (some 24) rfl rfl Tryd.func11 (by kernel_rfl) rfl #[.int .i64 a0, .int .i64 a1] rfl (by (try simp only [List.map_toArray, List.map_cons, List.map_nil]); first | done | rfl | (simp only [List.length_drop, List.length_take]; rfl)) ?_; (with_reducible refine (tesseraref04_Legal.calls a0 a1 true _ A5.out).mono ?_); rintro e w' ⟨rfl, ⟨nd, rfl⟩⟩; refine ⟨_, rfl, ?_⟩) | ((with_reducible refine gate_dst (N := 34) rfl ?_); (try (refine gate_guard (by rfl) ?_; dsimp only)); refine Kd.R_lit Kd.string _ 9 ?hg (N := 34) ?hd (xs := ([] : List ByteArray)) (inner := []) (ok := fun _ => True) (okp := fun _ => True) ?hr ?hp (fun _ hk => hk) trivial (Below.refl _ _) (Nat.le_refl _) (by simp) ?_; (case hd => rfl); (case hg => rfl); (case hr => first | (go_simp; done) | (go_simp; rfl)); (case hp => exact (Reps.none _ _)); intro v254 w8 ho9 hb hg_ hnew_; clear hg_ hnew_; (first | rw [← Ny253.out] at ho9 | (simp only [Int.reduceToNat] at ho9; rw [← Ny253.out] at ho9)); have n0_ := Aside0.mk (Kd.R_lower ho9 (below_size (by repeat (first | (with_reducible first | exact HB.out | apply below_alloc | apply pw_below_drewN | apply below_drew1) | exact HB.out)))); have n1_ := Aside0.mk (below_step (by repeat (first | (with_reducible first | exact HB.out | apply below_alloc | apply pw_below_drewN | apply below_drew1) | exact HB.out)) hb); clear HB; have HO255 := n0_; have HB := n1_; clear n0_ n1_; clear hb ho9))
      go_loopg [7, 8] k (fun kq v7 v8 w' => ∃ (x7_1 : List ByteArray) (x8_1 : Int), v8 = .int .i64 x8_1 ∧ Aside0 (tesseralaw05_HalfCount.l0 kq a0 a1 x7_1 x8_1 = some r) ∧ Aside0 (kq ≤ k) ∧ Aside0 (Kd.R Kd.string 9 w' w.heap.size (fun _ => True) v7 x7_1) ∧ Aside0 (Below w.heap.size w w'))
      case atStart => exact ⟨(y253), (0), (by first | rfl | (simp; done) | (simp [*]; done)), H', ⟨Nat.le_refl _⟩, ⟨by (with_reducible repeat (first | apply Kd.R_alloc | apply Kd.R_drewN | apply Kd.R_drew)); exact HO255.out⟩, ⟨by repeat (first | (with_reducible first | exact HB.out | apply below_alloc | apply pw_below_drewN | apply below_drew1) | exact HB.out)⟩⟩
      case round =>
        clear H'
        try clear c1
        try clear p2
        try clear c4
        try clear c6
        try clear c7
        obtain ⟨x7_1, x8_1, rfl, HA, HK1, HO_7, HB⟩ := hrel
        cases gk with
        | zero => exact absurd HA.out (by simp [tesseralaw05_HalfCount.l0])
        | succ k1 =>
          have H := HA.out
          clear HA
          first | rw [tesseralaw05_HalfCount.l0] at H | simp only [tesseralaw05_HalfCount.l0] at H
          by_cases c10 : x8_1 < (wrap64 (2 * (wrap64 (a0 + a1))))
          · rw [if_pos c10] at H
            have c10b0 : decide (x8_1 < (wrap64 (2 * (wrap64 (a0 + a1))))) = true := decide_eq_true c10
            clear c10
            replace H := Option.bind_eq_some_iff.mp H
            obtain ⟨⟨t256, t257⟩, A110, H⟩ := H
            replace H : ((half_Parse.f k1 a0 a1 t256).bind fun bt258 => ((half_Split.f a0 a1 x8_1).bind fun bt260 => ((half_Of.f a0 a1 bt260.1 bt260.2.1).bind fun bt263 => (if ((isNil t257) = true) then (if ((isNil bt258.2) = true) then (if ((isNil bt260.2.2) = true) then (if ((isNil bt263.2) = true) then (if bt258.1 = x8_1 then (if bt263.1 = x8_1 then (tesseralaw05_HalfCount.j1 k1 a0 a1 x7_1 x8_1 t256 (decide ((t256.size : Int) < 3))) else (tesseralaw05_HalfCount.j1 k1 a0 a1 x7_1 x8_1 t256 true)) else (tesseralaw05_HalfCount.j1 k1 a0 a1 x7_1 x8_1 t256 true)) else (tesseralaw05_HalfCount.j1 k1 a0 a1 x7_1 x8_1 t256 true)) else (tesseralaw05_HalfCount.j1 k1 a0 a1 x7_1 x8_1 t256 true)) else (tesseralaw05_HalfCount.j1 k1 a0 a1 x7_1 x8_1 t256 true)) else (tesseralaw05_HalfCount.j1 k1 a0 a1 x7_1 x8_1 t256 true))))) = some r := H
            have A11 := Aside0.mk A110
            clear A110
            replace H := Option.bind_eq_some_iff.mp H
            obtain ⟨⟨t258, t259⟩, A120, H⟩ := H
            replace H : ((half_Split.f a0 a1 x8_1).bind fun bt260 => ((half_Of.f a0 a1 bt260.1 bt260.2.1).bind fun bt263 => (if ((isNil t257) = true) then (if ((isNil t259) = true) then (if ((isNil bt260.2.2) = true) then (if ((isNil bt263.2) = true) then (if t258 = x8_1 then (if bt263.1 = x8_1 then (tesseralaw05_HalfCount.j1 k1 a0 a1 x7_1 x8_1 t256 (decide ((t256.size : Int) < 3))) else (tesseralaw05_HalfCount.j1 k1 a0 a1 x7_1 x8_1 t256 true)) else (tesseralaw05_HalfCount.j1 k1 a0 a1 x7_1 x8_1 t256 true)) else (tesseralaw05_HalfCount.j1 k1 a0 a1 x7_1 x8_1 t256 true)) else (tesseralaw05_HalfCount.j1 k1 a0 a1 x7_1 x8_1 t256 true)) else (tesseralaw05_HalfCount.j1 k1 a0 a1 x7_1 x8_1 t256 true)) else (tesseralaw05_HalfCount.j1 k1 a0 a1 x7_1 x8_1 t256 true)))) = some r := H
            have A12 := Aside0.mk A120
            clear A120
            replace H := Option.bind_eq_some_iff.mp H
            obtain ⟨⟨t260, t261, t262⟩, A130, H⟩ := H
            replace H : ((half_Of.f a0 a1 t260 t261).bind fun bt263 => (if ((isNil t257) = true) then (if ((isNil t259) = true) then (if ((isNil t262) = true) then (if ((isNil bt263.2) = true) then (if t258 = x8_1 then (if bt263.1 = x8_1 then (tesseralaw05_HalfCount.j1 k1 a0 a1 x7_1 x8_1 t256 (decide ((t256.size : Int) < 3))) else (tesseralaw05_HalfCount.j1 k1 a0 a1 x7_1 x8_1 t256 true)) else (tesseralaw05_HalfCount.j1 k1 a0 a1 x7_1 x8_1 t256 true)) else (tesseralaw05_HalfCount.j1 k1 a0 a1 x7_1 x8_1 t256 true)) else (tesseralaw05_HalfCount.j1 k1 a0 a1 x7_1 x8_1 t256 true)) else (tesseralaw05_HalfCount.j1 k1 a0 a1 x7_1 x8_1 t256 true)) else (tesseralaw05_HalfCount.j1 k1 a0 a1 x7_1 x8_1 t256 true))) = some r := H
            have A13 := Aside0.mk A130
            clear A130
            replace H := Option.bind_eq_some_iff.mp H
            obtain ⟨⟨t263, t264⟩, A140, H⟩ := H
            replace H : (if ((isNil t257) = true) then (if ((isNil t259) = true) then (if ((isNil t262) = true) then (if ((isNil t264) = true) then (if t258 = x8_1 then (if t263 = x8_1 then (tesseralaw05_HalfCount.j1 k1 a0 a1 x7_1 x8_1 t256 (decide ((t256.size : Int) < 3))) else (tesseralaw05_HalfCount.j1 k1 a0 a1 x7_1 x8_1 t256 true)) else (tesseralaw05_HalfCount.j1 k1 a0 a1 x7_1 x8_1 t256 true)) else (tesseralaw05_HalfCount.j1 k1 a0 a1 x7_1 x8_1 t256 true)) else (tesseralaw05_HalfCount.j1 k1 a0 a1 x7_1 x8_1 t256 true)) else (tesseralaw05_HalfCount.j1 k1 a0 a1 x7_1 x8_1 t256 true)) else (tesseralaw05_HalfCount.j1 k1 a0 a1 x7_1 x8_1 t256 true)) = some r := H
            have A14 := Aside0.mk A140
            clear A140
            have HC15 := Aside0.mk H
            clear H
            go_upto_region 14 with (first | ((with_reducible refine gate_callee (f := 15) rfl ?_); refine goesL_ (some 47) rfl rfl Tryd.func15 (by kernel_rfl) rfl #[.int .i64 a0, .int .i64 a1, .int .i64 x8_1] rfl (by (try simp only [List.map_toArray, List.map_cons, List.map_nil]); first | done | rfl | (simp only [List.length_drop, List.length_take]; rfl)) ?_; (with_reducible refine (half_Name.calls a0 a1 x8_1 t256 t257 _ A11.out (Sent.sub (show ∀ c, c ∈ half_Name.L → c ∈ tesseralaw05_HalfCount.L by decide) (Sent.below HS.out (by repeat (first | (with_reducible first | exact HB.out | apply below_alloc | apply pw_below_drewN | apply below_drew1) | exact HB.out))))).mono ?_); rintro e w16 ⟨rfl, hb⟩; refine ⟨_, rfl, ?_⟩; have n0_ := Aside0.mk (Kd.R_below (by (with_reducible repeat (first | apply Kd.R_alloc | apply Kd.R_drewN | apply Kd.R_drew)); exact HO_7.out) hb); have n1_ := Aside0.mk (below_step (by repeat (first | (with_reducible first | exact HB.out | apply below_alloc | apply pw_below_drewN | apply below_drew1) | exact HB.out)) hb); clear HO_7; clear HB; have HO_7 := n0_; have HB := n1_; clear n0_ n1_; (try clear hb); (try clear hb2); (try clear hk); (try clear hi); (try simp only [errW_none, errW_some])) | ((with_reducible refine gate_callee (f := 16) rfl ?_); refine goesL_ (some 54) rfl rfl Tryd.func16 (by kernel_rfl) rfl #[.int .i64 a0, .int .i64 a1, .string t256] rfl (by (try simp only [List.map_toArray, List.map_cons, List.map_nil]); first | done | rfl | (simp only [List.length_drop, List.length_take]; rfl)) ?_; (with_reducible refine (half_Parse.calls k1 a0 a1 t256 t258 t259 _ A12.out (Sent.sub (show ∀ c, c ∈ half_Parse.L → c ∈ tesseralaw05_HalfCount.L by decide) (Sent.below HS.out (by repeat (first | (with_reducible first | exact HB.out | apply below_alloc | apply pw_below_drewN | apply below_drew1) | exact HB.out))))).mono ?_); rintro e w17 ⟨rfl, hb⟩; refine ⟨_, rfl, ?_⟩; have n0_ := Aside0.mk (Kd.R_below (by (with_reducible repeat (first | apply Kd.R_alloc | apply Kd.R_drewN | apply Kd.R_drew)); exact HO_7.out) hb); have n1_ := Aside0.mk (below_step (by repeat (first | (with_reducible first | exact HB.out | apply below_alloc | apply pw_below_drewN | apply below_drew1) | exact HB.out)) hb); clear HO_7; clear HB; have HO_7 := n0_; have HB := n1_; clear n0_ n1_; (try clear hb); (try clear hb2); (try clear hk); (try clear hi); (try simp only [errW_none, errW_some])) | ((with_reducible refine gate_callee (f := 25) rfl ?_); refine goesL_ (some 61) rfl rfl Tryd.func25 (by kernel_rfl) rfl #[.int .i64 a0, .int .i64 a1, .int .i64 x8_1] rfl (by (try simp only [List.map_toArray, List.map_cons, List.map_nil]); first | done | rfl | (simp only [List.length_drop, List.length_take]; rfl)) ?_; (with_reducible refine (half_Split.calls a0 a1 x8_1 t260 t261 t262 _ A13.out (Sent.sub (show ∀ c, c ∈ half_Split.L → c ∈ tesseralaw05_HalfCount.L by decide) (Sent.below HS.out (by repeat (first | (with_reducible first | exact HB.out | apply below_alloc | apply pw_below_drewN | apply below_drew1) | exact HB.out))))).mono ?_); rintro e w18 ⟨rfl, hb⟩; refine ⟨_, rfl, ?_⟩; have n0_ := Aside0.mk (Kd.R_below (by (with_reducible repeat (first | apply Kd.R_alloc | apply Kd.R_drewN | apply Kd.R_drew)); exact HO_7.out) hb); have n1_ := Aside0.mk (below_step (by repeat (first | (with_reducible first | exact HB.out | apply below_alloc | apply pw_below_drewN | apply below_drew1) | exact HB.out)) hb); clear HO_7; clear HB; have HO_7 := n0_; have HB := n1_; clear n0_ n1_; (try clear hb); (try clear hb2); (try clear hk); (try clear hi); (try simp only [errW_none, errW_some])) | ((with_reducible refine gate_callee (f := 24) rfl ?_); refine goesL_ (some 70) rfl rfl Tryd.func24 (by kernel_rfl) rfl #[.int .i64 a0, .int .i64 a1, .int .i64 t260, .int .i64 t261] rfl (by (try simp only [List.map_toArray, List.map_cons, List.map_nil]); first | done | rfl | (simp only [List.length_drop, List.length_take]; rfl)) ?_; (with_reducible refine (half_Of.calls a0 a1 t260 t261 t263 t264 _ A14.out (Sent.sub (show ∀ c, c ∈ half_Of.L → c ∈ tesseralaw05_HalfCount.L by decide) (Sent.below HS.out (by repeat (first | (with_reducible first | exact HB.out | apply below_alloc | apply pw_below_drewN | apply below_drew1) | exact HB.out))))).mono ?_); rintro e w19 ⟨rfl, hb⟩; refine ⟨_, rfl, ?_⟩; have n0_ := Aside0.mk (Kd.R_below (by (with_reducible repeat (first | apply Kd.R_alloc | apply Kd.R_drewN | apply Kd.R_drew)); exact HO_7.out) hb); have n1_ := Aside0.mk (below_step (by repeat (first | (with_reducible first | exact HB.out | apply below_alloc | apply pw_below_drewN | apply below_drew1) | exact HB.out)) hb); clear HO_7; clear HB; have HO_7 := n0_; have HB := n1_; clear n0_ n1_; (try clear hb); (try clear hb2); (try clear hk); (try clear hi); (try simp only [errW_none, errW_some])))
            (try simp only [Act.put, List.setIfInBounds_toArray, List.set_cons_zero, List.set_cons_succ])
            go_cut [101] (fun v101 wc => ∃ (kq : Nat) (x101_14 : Bool), v101 = .bool x101_14 ∧ Aside0 (tesseralaw05_HalfCount.j1 kq a0 a1 x7_1 x8_1 t256 x101_14 = some r) ∧ Aside0 (kq ≤ k1) ∧ Aside0 (Kd.R Kd.string 9 wc w.heap.size (fun _ => True) u7 x7_1) ∧ Aside0 (Below w.heap.size w wc))
            case first =>
              have H := HC15.out
              clear HC15
              have hq20 := fun (W_ : World) => errW_neq_nil t257 W_
              by_cases c21 : ((isNil t257) = true)
              · rw [if_pos c21] at H
                have c21b0 : (isNil t257) = true := c21
                clear c21
                (first | rw [c21b0] | (simp only [i64_w, i32_w]; rw [c21b0]) | skip)
                have hq22 := fun (W_ : World) => errW_neq_nil t259 W_
                by_cases c23 : ((isNil t259) = true)
                · rw [if_pos c23] at H
                  have c23b0 : (isNil t259) = true := c23
                  clear c23
                  have hq24 := fun (W_ : World) => errW_neq_nil t262 W_
                  by_cases c25 : ((isNil t262) = true)
                  · rw [if_pos c25] at H
                    have c25b0 : (isNil t262) = true := c25
                    clear c25
                    have hq26 := fun (W_ : World) => errW_neq_nil t264 W_
                    by_cases c27 : ((isNil t264) = true)
                    · rw [if_pos c27] at H
                      have c27b0 : (isNil t264) = true := c27
                      clear c27
                      by_cases c28 : t258 = x8_1
                      · rw [if_pos c28] at H
                        have c28b0 : (t258 == x8_1) = true := beq_iff_eq.mpr c28
                        have c28b1 : (t258 != x8_1) = false := bne_eq_false_iff_eq.mpr c28
                        clear c28
                        by_cases c29 : t263 = x8_1
                        · rw [if_pos c29] at H
                          have c29b0 : (t263 == x8_1) = true := beq_iff_eq.mpr c29
                          have c29b1 : (t263 != x8_1) = false := bne_eq_false_iff_eq.mpr c29
                          clear c29
                          have H' := Aside0.mk H
                          clear H
                          go_wp2
                          go_meet
                          case rel => exact ⟨_, (decide ((t256.size : Int) < 3)), (by first | rfl | (simp; done) | (simp [*]; done)), H', ⟨by have := HK1.out; first | omega | exact Nat.le_refl _⟩, ⟨by (with_reducible repeat (first | apply Kd.R_alloc | apply Kd.R_drewN | apply Kd.R_drew)); exact HO_7.out⟩, ⟨by repeat (first | (with_reducible first | exact HB.out | apply below_alloc | apply pw_below_drewN | apply below_drew1) | exact HB.out)⟩⟩
                        · rw [if_neg c29] at H
                          have c29b0 : (t263 == x8_1) = false := beq_eq_false_iff_ne.mpr c29
                          have c29b1 : (t263 != x8_1) = true := bne_iff_ne.mpr c29
                          have H' := Aside0.mk H
                          clear H
                          go_wp2
                          go_meet
                          case rel => exact ⟨_, (true), (by first | rfl | (simp; done) | (simp [*]; done)), H', ⟨by have := HK1.out; first | omega | exact Nat.le_refl _⟩, ⟨by (with_reducible repeat (first | apply Kd.R_alloc | apply Kd.R_drewN | apply Kd.R_drew)); exact HO_7.out⟩, ⟨by repeat (first | (with_reducible first | exact HB.out | apply below_alloc | apply pw_below_drewN | apply below_drew1) | exact HB.out)⟩⟩
                      · rw [if_neg c28] at H
                        have c28b0 : (t258 == x8_1) = false := beq_eq_false_iff_ne.mpr c28
                        have c28b1 : (t258 != x8_1) = true := bne_iff_ne.mpr c28
                        have H' := Aside0.mk H
                        clear H
                        go_wp2
                        go_meet
                        case rel => exact ⟨_, (true), (by first | rfl | (simp; done) | (simp [*]; done)), H', ⟨by have := HK1.out; first | omega | exact Nat.le_refl _⟩, ⟨by (with_reducible repeat (first | apply Kd.R_alloc | apply Kd.R_drewN | apply Kd.R_drew)); exact HO_7.out⟩, ⟨by repeat (first | (with_reducible first | exact HB.out | apply below_alloc | apply pw_below_drewN | apply below_drew1) | exact HB.out)⟩⟩
                    · rw [if_neg c27] at H
                      have c27b0 : (isNil t264) = false := by simpa using c27
                      clear c27
                      have H' := Aside0.mk H
                      clear H
                      go_wp2
                      go_meet
                      case rel => exact ⟨_, (true), (by first | rfl | (simp; done) | (simp [*]; done)), H', ⟨by have := HK1.out; first | omega | exact Nat.le_refl _⟩, ⟨by (with_reducible repeat (first | apply Kd.R_alloc | apply Kd.R_drewN | apply Kd.R_drew)); exact HO_7.out⟩, ⟨by repeat (first | (with_reducible first | exact HB.out | apply below_alloc | apply pw_below_drewN | apply below_drew1) | exact HB.out)⟩⟩
                  · rw [if_neg c25] at H
                    have c25b0 : (isNil t262) = false := by simpa using c25
                    clear c25
                    have H' := Aside0.mk H
                    clear H
                    go_wp2
                    go_meet
                    case rel => exact ⟨_, (true), (by first | rfl | (simp; done) | (simp [*]; done)), H', ⟨by have := HK1.out; first | omega | exact Nat.le_refl _⟩, ⟨by (with_reducible repeat (first | apply Kd.R_alloc | apply Kd.R_drewN | apply Kd.R_drew)); exact HO_7.out⟩, ⟨by repeat (first | (with_reducible first | exact HB.out | apply below_alloc | apply pw_below_drewN | apply below_drew1) | exact HB.out)⟩⟩
                · rw [if_neg c23] at H
                  have c23b0 : (isNil t259) = false := by simpa using c23
                  clear c23
                  have H' := Aside0.mk H
                  clear H
                  go_wp2
                  go_meet
                  case rel => exact ⟨_, (true), (by first | rfl | (simp; done) | (simp [*]; done)), H', ⟨by have := HK1.out; first | omega | exact Nat.le_refl _⟩, ⟨by (with_reducible repeat (first | apply Kd.R_alloc | apply Kd.R_drewN | apply Kd.R_drew)); exact HO_7.out⟩, ⟨by repeat (first | (with_reducible first | exact HB.out | apply below_alloc | apply pw_below_drewN | apply below_drew1) | exact HB.out)⟩⟩
              · rw [if_neg c21] at H
                have c21b0 : (isNil t257) = false := by simpa using c21
                clear c21
                (first | rw [c21b0] | (simp only [i64_w, i32_w]; rw [c21b0]) | skip)
                have H' := Aside0.mk H
                clear H
                go_wp2
                go_meet
                case rel => exact ⟨_, (true), (by first | rfl | (simp; done) | (simp [*]; done)), H', ⟨by have := HK1.out; first | omega | exact Nat.le_refl _⟩, ⟨by (with_reducible repeat (first | apply Kd.R_alloc | apply Kd.R_drewN | apply Kd.R_drew)); exact HO_7.out⟩, ⟨by repeat (first | (with_reducible first | exact HB.out | apply below_alloc | apply pw_below_drewN | apply below_drew1) | exact HB.out)⟩⟩
            case rest =>
              clear HC15
              try clear c1
              try clear c2
              try clear p2
              try clear q2
              try clear c4
              try clear c6
              try clear p6
              try clear c7
              try clear c10
              try clear c10b0
              try clear c11
              try clear c15
              try clear c16
              try clear q20
              try clear c21
              try clear c21b0
              try clear q22
              try clear c23
              try clear c23b0
              try clear c24
              try clear q24
              try clear c25
              try clear c25b0
              try clear q26
              try clear c27
              try clear c27b0
              try clear c28
              try clear c28b0
              try clear c28b1
              try clear c29
              try clear c29b0
              try clear c29b1
              try clear p2
              obtain ⟨kq, x101_14, rfl, HA, HJ14, HO_7, HB⟩ := hcut
              cases kq with
              | zero => exact absurd HA.out (by simp [tesseralaw05_HalfCount.j1])
              | succ kj14 =>
                have H := HA.out
                clear HA
                first | rw [tesseralaw05_HalfCount.j1] at H | simp only [tesseralaw05_HalfCount.j1] at H
                by_cases c30 : x101_14 = true
                · subst c30
                  have H1 : (some false) = some r := by rw [if_pos rfl] at H; exact H
                  clear H
                  have H := H1
                  clear H1
                  obtain rfl := Option.some.inj H
                  go_wp2
                  go_ret
                  exact ⟨by first | rfl | (simp [errW_none, errW_some] <;> rfl) | (simp [*, errW_none, errW_some] <;> rfl), by repeat (first | (with_reducible first | exact HB.out | apply below_alloc | apply pw_below_drewN | apply below_drew1) | exact HB.out)⟩
                · replace c30 := Bool.eq_false_iff.mpr c30
                  subst c30
                  have H1 : (tesseralaw05_HalfCount.l1 kj14 a0 a1 x7_1 x8_1 t256 x7_1 (x7_1.length : Int) 0) = some r := by rw [if_neg (show ¬ (false = true) by decide)] at H; exact H
                  clear H
                  have H := H1
                  clear H1
                  have H' := Aside0.mk H
                  clear H
                  obtain ⟨Ao31, co31, eo31⟩ := Kd.R_slice HO_7.out
                  subst eo31
                  go_wp2
                  go_loopg [104] kj14 (fun kq v104 w' => ∃ (x104_3 : Int), v104 = .int .i64 x104_3 ∧ Aside0 (tesseralaw05_HalfCount.l1 kq a0 a1 x7_1 x8_1 t256 x7_1 (x7_1.length : Int) x104_3 = some r) ∧ Aside0 (kq ≤ kj14) ∧ Aside0 (Kd.R Kd.string 9 w' w.heap.size (fun _ => True) (.slice Ao31 x7_1.length co31) x7_1) ∧ Aside0 (Kd.R Kd.string 9 w' w.heap.size (fun _ => True) (.slice Ao31 x7_1.length co31) x7_1) ∧ Aside0 (Below w.heap.size w w'))
                  case atStart => exact ⟨(0), (by first | rfl | (simp; done) | (simp [*]; done)), H', ⟨Nat.le_refl _⟩, ⟨by (with_reducible repeat (first | apply Kd.R_alloc | apply Kd.R_drewN | apply Kd.R_drew)); exact HO_7.out⟩, ⟨by (with_reducible repeat (first | apply Kd.R_alloc | apply Kd.R_drewN | apply Kd.R_drew)); exact HO_7.out⟩, ⟨by repeat (first | (with_reducible first | exact HB.out | apply below_alloc | apply pw_below_drewN | apply below_drew1) | exact HB.out)⟩⟩
                  case round =>
                    clear H'
                    try clear c1
                    try clear c2
                    try clear p2
                    try clear q2
                    try clear c3
                    try clear c4
                    try clear c6
                    try clear p6
                    try clear c7
                    try clear c10
                    try clear c10b0
                    try clear c11
                    try clear c15
                    try clear c16
                    try clear q20
                    try clear c21
                    try clear c21b0
                    try clear q22
                    try clear c23
                    try clear c23b0
                    try clear c24
                    try clear q24
                    try clear c25
                    try clear c25b0
                    try clear q26
                    try clear c27
                    try clear c27b0
                    try clear c28
                    try clear c28b0
                    try clear c28b1
                    try clear c29
                    try clear c29b0
                    try clear c29b1
                    try clear c30
                    try clear p2
                    try clear p6
                    try clear q2
                    try clear q20
                    try clear q22
                    try clear q24
                    try clear q26
                    obtain ⟨x104_3, rfl, HA, HK3, HO_7, HO_102, HB⟩ := hrel
                    cases gk with
                    | zero => exact absurd HA.out (by simp [tesseralaw05_HalfCount.l1])
                    | succ k3 =>
                      have H := HA.out
                      clear HA
                      first | rw [tesseralaw05_HalfCount.l1] at H | simp only [tesseralaw05_HalfCount.l1] at H
                      by_cases c32 : x104_3 < (x7_1.length : Int)
                      · rw [if_pos c32] at H
                        have c32b0 : decide (x104_3 < (x7_1.length : Int)) = true := decide_eq_true c32
                        clear c32
                        by_cases c33 : 0 ≤ x104_3
                        · rw [if_pos c33] at H
                          have c33b0 : decide (0 ≤ x104_3) = true := decide_eq_true c33
                          clear c33
                          by_cases c34 : x104_3 < (x7_1.length : Int)
                          · rw [if_pos c34] at H
                            have c34b0 : decide (x104_3 < (x7_1.length : Int)) = true := decide_eq_true c34
                            clear c34
                            by_cases c35 : (rdOf ByteArray.empty x7_1 x104_3).toList = t256.toList
                            · rw [if_pos c35] at H
                              have c35b0 : ((rdOf ByteArray.empty x7_1 x104_3).toList == t256.toList) = true := beq_iff_eq.mpr c35
                              have c35b1 : ((rdOf ByteArray.empty x7_1 x104_3).toList != t256.toList) = false := bne_eq_false_iff_eq.mpr c35
                              clear c35
                              obtain rfl := Option.some.inj H
                              have p265 : 0 ≤ (x104_3 : Int) := of_decide_eq_true (by first | (with_reducible assumption) | assumption)
                              have q265 : x104_3 < (x7_1.length : Int) := of_decide_eq_true (by first | (with_reducible assumption) | assumption)
                              obtain ⟨ad265, e265, hx265_0⟩ := Kd.at_string (Kd.R_reads' HO_102.out).2.2 x104_3 p265 q265
                              cases e265
                              replace p265 := eq_true p265
                              replace q265 := eq_true q265
                              go_wp2
                              go_ret
                              exact ⟨by first | rfl | (simp [errW_none, errW_some] <;> rfl) | (simp [*, errW_none, errW_some] <;> rfl), by repeat (first | (with_reducible first | exact HB.out | apply below_alloc | apply pw_below_drewN | apply below_drew1) | exact HB.out)⟩
                            · rw [if_neg c35] at H
                              have c35b0 : ((rdOf ByteArray.empty x7_1 x104_3).toList == t256.toList) = false := beq_eq_false_iff_ne.mpr c35
                              have c35b1 : ((rdOf ByteArray.empty x7_1 x104_3).toList != t256.toList) = true := bne_iff_ne.mpr c35
                              have H' := Aside0.mk H
                              clear H
                              have p265 : 0 ≤ (x104_3 : Int) := of_decide_eq_true (by first | (with_reducible assumption) | assumption)
                              have q265 : x104_3 < (x7_1.length : Int) := of_decide_eq_true (by first | (with_reducible assumption) | assumption)
                              obtain ⟨ad265, e265, hx265_0⟩ := Kd.at_string (Kd.R_reads' HO_102.out).2.2 x104_3 p265 q265
                              cases e265
                              replace p265 := eq_true p265
                              replace q265 := eq_true q265
                              go_wp2
                              go_roundg k3
                              case measure => have := HK1.out; have := HJ14.out; have := HK3.out; omega
                              case rel => exact ⟨(wrap64 (x104_3 + 1)), (by first | rfl | (simp; done) | (simp [*]; done)), H', ⟨by have := HK1.out; have := HJ14.out; have := HK3.out; omega⟩, ⟨by (with_reducible repeat (first | apply Kd.R_alloc | apply Kd.R_drewN | apply Kd.R_drew)); exact HO_7.out⟩, ⟨by (with_reducible repeat (first | apply Kd.R_alloc | apply Kd.R_drewN | apply Kd.R_drew)); exact HO_102.out⟩, ⟨by repeat (first | (with_reducible first | exact HB.out | apply below_alloc | apply pw_below_drewN | apply below_drew1) | exact HB.out)⟩⟩
                          · rw [if_neg c34] at H
                            exact absurd H (by simp)
                        · rw [if_neg c33] at H
                          exact absurd H (by simp)
                      · rw [if_neg c32] at H
                        have c32b0 : decide (x104_3 < (x7_1.length : Int)) = false := decide_eq_false c32
                        clear c32
                        by_cases c36 : x7_1.length < 8796093022208
                        · rw [if_pos c36] at H
                          have LMc36 := Aside0.mk c36
                          clear c36
                          obtain ⟨y266, hy266⟩ : ∃ y_ : List ByteArray, y_ = (x7_1 ++ [t256]) := ⟨_, rfl⟩
                          replace H : (tesseralaw05_HalfCount.l0 k3 a0 a1 y266 (wrap64 (x8_1 + 1))) = some r := by first | (rw [hy266]; with_reducible exact H) | (have H2_ := (Option.bind_some _ _).symm.trans H; rw [hy266]; with_reducible exact H2_) | (have H2_ := (Option.bind_some _ _).symm.trans H; with_reducible exact H2_) | with_reducible exact H | (rw [hy266]; exact H) | exact H
                          have Ny266 := Aside0.mk hy266
                          clear hy266
                          have H' := Aside0.mk H
                          clear H
                          go_wp2_with (first | ((with_reducible refine gate_builtin (b := .append) (xs := #[.tmp 112, .tmp 114]) rfl ?_); (try (refine gate_guard (by rfl) ?_; dsimp only)); at_builtin; refine Kd.R_append Kd.string (w0 := w) w.heap.size rfl (.tmp 112) (.tmp 114) 58 9 (.string ⟨#[]⟩) 16 rfl Tryd.underlying58 info9 rfl (by decide) (by omega) (.slice Ao31 x7_1.length co31) x7_1 t256 [.string t256] (fun _ => True) (fun _ => False) rfl rfl ?aP (fun _ hk => hk.elim) ?aF ?aO ?aB ?aS ?aL ?_; (case aP => exact rfl); (case aB => exact (by repeat (first | (with_reducible first | exact HB.out | apply below_alloc | apply pw_below_drewN | apply below_drew1) | exact HB.out))); (case aF => exact (fun _ _ => trivial)); (case aO => exact (by (with_reducible repeat (first | apply Kd.R_alloc | apply Kd.R_drewN | apply Kd.R_drew)); exact HO_7.out)); (case aS => exact (below_size (by repeat (first | (with_reducible first | exact HB.out | apply below_alloc | apply pw_below_drewN | apply below_drew1) | exact HB.out)))); (case aL => have := LMc36.out; omega); intro v267 w37 ho hb hg hat; rw [← Ny266.out] at ho; have n0_ := Aside0.mk (hb); have n1_ := Aside0.mk (ho); clear HB; clear HO_7; have HB := n0_; have HO268 := n1_; clear n0_ n1_; clear ho hb hg hat))
                          go_roundg k3
                          case measure => have := HK1.out; have := HJ14.out; have := HK3.out; omega
                          case rel => exact ⟨(y266), (wrap64 (x8_1 + 1)), (by first | rfl | (simp; done) | (simp [*]; done)), H', ⟨by have := HK1.out; have := HJ14.out; have := HK3.out; omega⟩, ⟨by (with_reducible repeat (first | apply Kd.R_alloc | apply Kd.R_drewN | apply Kd.R_drew)); exact HO268.out⟩, ⟨by repeat (first | (with_reducible first | exact HB.out | apply below_alloc | apply pw_below_drewN | apply below_drew1) | exact HB.out)⟩⟩
                        · rw [if_neg c36] at H
                          exact absurd H (by simp)
          · rw [if_neg c10] at H
            have c10b0 : decide (x8_1 < (wrap64 (2 * (wrap64 (a0 + a1))))) = false := decide_eq_false c10
            clear c10
            obtain rfl := Option.some.inj H
            go_wp2
            go_ret
            exact ⟨by first | rfl | (simp [errW_none, errW_some] <;> rfl) | (simp [*, errW_none, errW_some] <;> rfl), by repeat (first | (with_reducible first | exact HB.out | apply below_alloc | apply pw_below_drewN | apply below_drew1) | exact HB.out)⟩
    · replace c6 := Bool.eq_false_iff.mpr c6
      subst c6
      have H1 : ((half_Name.f a0 a1 0).bind fun bt251 => (some (!(isNil bt251.2)))) = some r := by rw [if_neg (show ¬ (false = true) by decide)] at H; exact H
      clear H
      have H := H1
      clear H1
      replace H := Option.bind_eq_some_iff.mp H
      obtain ⟨⟨t251, t252⟩, A380, H⟩ := H
      replace H : (some (!(isNil t252))) = some r := H
      have A38 := Aside0.mk A380
      clear A380
      have hq39 := fun (W_ : World) => errW_neq_nil t252 W_
      obtain rfl := Option.some.inj H
      go_enter Tryd.func7, Tryd.ntmps7
      go_wp2_with (first | ((with_reducible refine gate_callee (f := 10) rfl ?_); refine goesL_ (some 20) rfl rfl Tryd.func10 (by kernel_rfl) rfl #[] rfl (by (try simp only [List.map_toArray, List.map_cons, List.map_nil]); first | done | rfl | (simp only [List.length_drop, List.length_take]; rfl)) ?_; (with_reducible refine (tesseralaw05_alive.calls k  true _ A3.out (Sent.sub (show ∀ c, c ∈ tesseralaw05_alive.L → c ∈ tesseralaw05_HalfCount.L by decide) (Sent.below HS.out (by repeat (first | (with_reducible first | exact HB.out | apply below_alloc | apply pw_below_drewN | apply below_drew1) | exact HB.out))))).mono ?_); rintro e w40 ⟨rfl, hb⟩; refine ⟨_, rfl, ?_⟩; have n0_ := Aside0.mk (below_step (by repeat (first | (with_reducible first | exact HB.out | apply below_alloc | apply pw_below_drewN | apply below_drew1) | exact HB.out)) hb); clear HB; have HB := n0_; clear n0_; (try clear hb); (try clear hb2); (try clear hk); (try clear hi)) | ((with_reducible refine gate_callee (f := 11) rfl ?_); refine goesL_ (some 24) rfl rfl Tryd.func11 (by kernel_rfl) rfl #[.int .i64 a0, .int .i64 a1] rfl (by (try simp only [List.map_toArray, List.map_cons, List.map_nil]); first | done | rfl | (simp only [List.length_drop, List.length_take]; rfl)) ?_; (with_reducible refine (tesseraref04_Legal.calls a0 a1 false _ A5.out).mono ?_); rintro e w' ⟨rfl, ⟨nd, rfl⟩⟩; refine ⟨_, rfl, ?_⟩) | ((with_reducible refine gate_callee (f := 15) rfl ?_); refine goesL_ (some 29) rfl rfl Tryd.func15 (by kernel_rfl) rfl #[.int .i64 a0, .int .i64 a1, .int .i64 0] rfl (by (try simp only [List.map_toArray, List.map_cons, List.map_nil]); first | done | rfl | (simp only [List.length_drop, List.length_take]; rfl)) ?_; (with_reducible refine (half_Name.calls a0 a1 0 t251 t252 _ A38.out (Sent.sub (show ∀ c, c ∈ half_Name.L → c ∈ tesseralaw05_HalfCount.L by decide) (Sent.below HS.out (by repeat (first | (with_reducible first | exact HB.out | apply below_alloc | apply pw_below_drewN | apply below_drew1) | exact HB.out))))).mono ?_); rintro e w41 ⟨rfl, hb⟩; refine ⟨_, rfl, ?_⟩; have n0_ := Aside0.mk (below_step (by repeat (first | (with_reducible first | exact HB.out | apply below_alloc | apply pw_below_drewN | apply below_drew1) | exact HB.out)) hb); clear HB; have HB := n0_; clear n0_; (try clear hb); (try clear hb2); (try clear hk); (try clear hi); (try simp only [errW_none, errW_some])))
      go_ret
      exact ⟨by first | rfl | (simp [errW_none, errW_some] <;> rfl) | (simp [*, errW_none, errW_some] <;> rfl), by repeat (first | (with_reducible first | exact HB.out | apply below_alloc | apply pw_below_drewN | apply below_drew1) | exact HB.out)⟩
  · replace c4 := Bool.eq_false_iff.mpr c4
    subst c4
    have H1 : (some false) = some r := by rw [if_neg (show ¬ (false = true) by decide)] at H; exact H
    clear H
    have H := H1
    clear H1
    obtain rfl := Option.some.inj H
    go_enter Tryd.func7, Tryd.ntmps7
    go_wp2_with (first | ((with_reducible refine gate_callee (f := 10) rfl ?_); refine goesL_ (some 20) rfl rfl Tryd.func10 (by kernel_rfl) rfl #[] rfl (by (try simp only [List.map_toArray, List.map_cons, List.map_nil]); first | done | rfl | (simp only [List.length_drop, List.length_take]; rfl)) ?_; (with_reducible refine (tesseralaw05_alive.calls k  false _ A3.out (Sent.sub (show ∀ c, c ∈ tesseralaw05_alive.L → c ∈ tesseralaw05_HalfCount.L by decide) (Sent.below HS.out (by repeat (first | (with_reducible first | exact HB.out | apply below_alloc | apply pw_below_drewN | apply below_drew1) | exact HB.out))))).mono ?_); rintro e w42 ⟨rfl, hb⟩; refine ⟨_, rfl, ?_⟩; have n0_ := Aside0.mk (below_step (by repeat (first | (with_reducible first | exact HB.out | apply below_alloc | apply pw_below_drewN | apply below_drew1) | exact HB.out)) hb); clear HB; have HB := n0_; clear n0_; (try clear hb); (try clear hb2); (try clear hk); (try clear hi)))
    go_ret
    exact ⟨by first | rfl | (simp [errW_none, errW_some] <;> rfl) | (simp [*, errW_none, errW_some] <;> rfl), by repeat (first | (with_reducible first | exact HB.out | apply below_alloc | apply pw_below_drewN | apply below_drew1) | exact HB.out)⟩

end Go.Proofs.YtnnondbimdmcaaaDoor.F
