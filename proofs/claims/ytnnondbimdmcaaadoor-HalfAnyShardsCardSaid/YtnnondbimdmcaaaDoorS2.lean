/- What some functions come to, each a function of its own text; joined out of: F40, G4, G5, F57, G6, G2, F43, G3, F52, G7. No conditions but those in each theorem. -/
import Derived.Test.YtnnondbimdmcaaaDoorS1
import Derived.Laws.CopyOwn
import Derived.Deep.RegionHeld3
import Derived.Deep.LoopGhost
import Derived.Test.YtnnondbimdmcaaaDoorProg
import Derived.Below
import Derived.Deep.Draws
import Derived.Deep.AppendLies
import Derived.Maps.AppendAt
import Derived.OwnWalk
import Derived.Laws.BytesArg
import Derived.Laws.MakeOwn
import Derived.Laws.OwnMore
import Derived.Deep.OwnRows
import Derived.Tactics
import Derived.Lib.ConvBytes
import Derived.Laws.Slices
import Derived.WalkKit
import Derived.KernelRfl
import Derived.RowKit3
import Derived.Deep.QuietTactic
import Derived.BigQuiet
import Derived.WideLaws
import Derived.Deep.DeepCutAuto
import Derived.Deep.CutBlock
import Derived.Laws.Rows
import Derived.Lib.AppendStr
import Derived.ArgAppend
import Derived.Laws.IdiomCopy
import Derived.OrdersHeld
import Derived.Laws.BitsLemmas
import Derived.RowKit
import Derived.Test.YtnnondbimdmcaaaDoorWWords
import Derived.Test.YtnnondbimdmcaaaDoorWLast
import Derived.Test.YtnnondbimdmcaaaDoorWTab
import Derived.Test.YtnnondbimdmcaaaDoorWFour
import Derived.Test.YtnnondbimdmcaaaDoorWQPut
import Derived.Test.YtnnondbimdmcaaaDoorWApart
import Derived.Test.YtnnondbimdmcaaaDoorWArr
import Derived.Test.YtnnondbimdmcaaaDoorWZeros
import Derived.Test.YtnnondbimdmcaaaDoorWFoot
import Derived.Test.YtnnondbimdmcaaaDoorWKept
import Derived.Test.YtnnondbimdmcaaaDoorWShare
import Derived.Test.YtnnondbimdmcaaaDoorWN
import Derived.Test.YtnnondbimdmcaaaDoorWFootNe
import Derived.Test.YtnnondbimdmcaaaDoorWAt
import Derived.Test.YtnnondbimdmcaaaDoorWEqStruct
import Derived.Test.YtnnondbimdmcaaaDoorWRepsOne
import Derived.Test.YtnnondbimdmcaaaDoorWInv
import Derived.Test.YtnnondbimdmcaaaDoorWInvWords
import Derived.Test.YtnnondbimdmcaaaDoorWGuard
import Derived.Test.YtnnondbimdmcaaaDoorWNEv
import Derived.Test.YtnnondbimdmcaaaDoorWMore
import Derived.Lib.SliceRun
namespace Go.Proofs.YtnnondbimdmcaaaDoor.F
open Go.RowKit Go.Proofs.YtnnondbimdmcaaaDoorW.PrintWords Go.Proofs.YtnnondbimdmcaaaDoorW.PrintLast Go.Proofs.YtnnondbimdmcaaaDoorW.PrintMore
attribute [local go_sem] max2_int min2_int max_two min_two max_three min_three max_four min_four   -- for this text's walks alone
set_option linter.unusedVariables false
set_option linter.unusedSimpArgs false
set_option linter.unusedSectionVars false
open Go.Proofs.YtnnondbimdmcaaaDoor
variable [Errs]

/-! ### mat_Of: function 40 -/
def mat_Of.L : List Int := [2]
mutual
def mat_Of.j0 : Nat → Int → List (List Int) → Bool → Option (Int × Int × List Int × Option Int)
  | 0, _, _, _ => none
  | k + 1, x0, x1, x16 => if x16 = true then (some (0, 0, ([] : List Int), some 2)) else (mat_Of.l0 k x0 x1 (x1.length : Int) 0 (x1.length : Int) x0 ([] : List Int))
def mat_Of.l0 : Nat → Int → List (List Int) → Int → Int → Int → Int → List Int → Option (Int × Int × List Int × Option Int)
  | 0, _, _, _, _, _, _, _ => none
  | k + 1, x0, x23, x24, x25, x272000, x272001, x272002 => if x25 < x24 then (if 0 ≤ x25 then (if x25 < (x23.length : Int) then (if ((rd_L3 x23 x25).length : Int) = x0 then (if x272002.length + (rd_L3 x23 x25).length < 140737488355328 then (mat_Of.l0 k x0 x23 x24 (wrap64 (x25 + 1)) x272000 x272001 (x272002 ++ (rd_L3 x23 x25))) else (none)) else (some (0, 0, ([] : List Int), some 2))) else (none)) else (none)) else (some (x272000, x272001, x272002, none))
end
def mat_Of.f (k : Nat) (a0 : Int) (l1 : List (List Int)) : Option (Int × Int × List Int × Option Int) := (mat_sized.f a0).bind fun t270 => (if t270 = true then (mat_Of.j0 k a0 l1 (decide ((l1.length : Int) > 64))) else (mat_Of.j0 k a0 l1 true))
theorem mat_Of.mono_l : ∀ k, (∀ y0 y1 y2, LeO (mat_Of.j0 k y0 y1 y2) (mat_Of.j0 (k + 1) y0 y1 y2)) ∧ (∀ y0 y1 y2 y3 y4 y5 y6, LeO (mat_Of.l0 k y0 y1 y2 y3 y4 y5 y6) (mat_Of.l0 (k + 1) y0 y1 y2 y3 y4 y5 y6))
  | 0 => ⟨fun _ _ _ r h => by simp [mat_Of.j0] at h, fun _ _ _ _ _ _ _ r h => by simp [mat_Of.l0] at h⟩
  | k + 1 => by
    obtain ⟨ih0, ih1⟩ := mat_Of.mono_l k
    refine ⟨?_, ?_⟩
    · intro y0 y1 y2
      unfold mat_Of.j0
      repeat' first
      | (with_reducible exact ih0 _ _ _)
      | (with_reducible exact ih1 _ _ _ _ _ _ _)
      | (with_reducible exact LeO.refl _)
      | (with_reducible exact LeO.none _)
      | (with_reducible refine LeO.ite ?_ ?_)
      | (with_reducible refine LeO.bind ?_ (fun _ => ?_))
      | exact ih0 _ _ _
      | exact ih1 _ _ _ _ _ _ _
      | exact LeO.none _
      | refine LeO.ite ?_ ?_
      | refine LeO.bind ?_ (fun _ => ?_)
    · intro y0 y1 y2 y3 y4 y5 y6
      unfold mat_Of.l0
      repeat' first
      | (with_reducible exact ih0 _ _ _)
      | (with_reducible exact ih1 _ _ _ _ _ _ _)
      | (with_reducible exact LeO.refl _)
      | (with_reducible exact LeO.none _)
      | (with_reducible refine LeO.ite ?_ ?_)
      | (with_reducible refine LeO.bind ?_ (fun _ => ?_))
      | exact ih0 _ _ _
      | exact ih1 _ _ _ _ _ _ _
      | exact LeO.none _
      | refine LeO.ite ?_ ?_
      | refine LeO.bind ?_ (fun _ => ?_)
theorem mat_Of.mono : ∀ a0 a1 k, LeO (mat_Of.f k a0 a1) (mat_Of.f (k + 1) a0 a1) := by
  intro a0 a1 k
  obtain ⟨ih0, ih1⟩ := mat_Of.mono_l k
  unfold mat_Of.f
  repeat' first
      | (with_reducible exact ih0 _ _ _)
      | (with_reducible exact ih1 _ _ _ _ _ _ _)
      | (with_reducible exact LeO.refl _)
      | (with_reducible exact LeO.none _)
      | (with_reducible refine LeO.ite ?_ ?_)
      | (with_reducible refine LeO.bind ?_ (fun _ => ?_))
      | exact ih0 _ _ _
      | exact ih1 _ _ _ _ _ _ _
      | exact LeO.none _
      | refine LeO.ite ?_ ?_
      | refine LeO.bind ?_ (fun _ => ?_)
set_option maxHeartbeats 8000000 in
set_option maxRecDepth 100000 in
theorem mat_Of.calls (k : Nat) (a0 : Int) (A1 : Option Addr) (c1 : Nat) (l1 : List (List Int)) (r1 : Int) (r2 : Int) (r3 : List Int) (r4 : Option Int) (w : World) (hr1 : Kd.C (Kd.slice 5 (Kd.int .u8)) w A1 l1.length l1) (hc1 : l1.length ≤ c1) (h : mat_Of.f k a0 l1 = some (r1, r2, r3, r4)) (hS : Sent mat_Of.L w) :
    Calls Tryd.prog 40 #[.int .i64 a0, .slice A1 l1.length c1] w fun e w' => ∃ v2_ : Value, e = .returned (.tuple #[.agg #[.int .i64 r1, .int .i64 r2, v2_], errW r4]) ∧ Kd.R (Kd.int .u8) 5 w' w.heap.size (fun _ => True) v2_ r3 ∧ Below w.heap.size w w' := by
  have hu43 := Tryd.underlying43
  have HR1 := Aside0.mk hr1
  have HC1 := Aside0.mk hc1
  clear hr1 hc1
  have HB := Aside0.mk (Below.refl w.heap.size w)
  have HS := Aside0.mk hS
  have hgl2 := Sent.cell hS 2 3 rfl (by decide)
  simp only [errW_some] at hgl2
  have hglw2 := Sent.cell0 hS 2 3 rfl (by decide)
  simp only [errW_some] at hglw2
  clear hS
  have H : ((mat_sized.f a0).bind fun t270 => (if t270 = true then (mat_Of.j0 k a0 l1 (decide ((l1.length : Int) > 64))) else (mat_Of.j0 k a0 l1 true))) = some (r1, r2, r3, r4) := h
  clear h
  have HC3 := Aside0.mk H
  clear H
  go_enter Tryd.func40, Tryd.ntmps40
  go_upto_region 1 with (first | ((with_reducible refine gate_dst (N := 4) rfl ?_); (try (refine gate_guard (by rfl) ?_; dsimp only)); refine box_event ?hg (N := 4) ?hd (cs := #[.int .i64 0, .int .i64 0, .slice none 0 0]) (t := 43) ?hr ?_; (case hd => rfl); (case hg => rfl); (case hr => first | (go_simp; done) | (go_simp; rfl)); intro gb269 hg w4 hbox hb; have n0_ := Aside0.mk (below_step (by repeat (first | (with_reducible first | exact HB.out | apply below_alloc | apply pw_below_drewN | apply below_drew1) | exact HB.out)) hb); have n1_ := Aside0.mk (hbox); have n2_ := Aside0.mk ((by rw [hg]; exact (below_size (by repeat (first | (with_reducible first | exact HB.out | apply below_alloc | apply pw_below_drewN | apply below_drew1) | exact HB.out))) : w.heap.size ≤ gb269)); have n3_ := Aside0.mk ((by rw [hg]; exact (below_size (by repeat (first | (with_reducible first | exact HB.out | apply below_alloc | apply pw_below_drewN | apply below_drew1) | exact HB.out))) : w.heap.size ≤ gb269)); clear HB; have HB := n0_; have BK269 := n1_; have GW269 := n2_; have GE269 := n3_; clear n0_ n1_ n2_ n3_; clear hb hbox hg))
  (try simp only [Act.put, List.setIfInBounds_toArray, List.set_cons_zero, List.set_cons_succ])
  go_cut [16] (fun v16 wc => ∃ (kq : Nat) (x16_2 : Bool), v16 = .bool x16_2 ∧ Aside0 (mat_Of.j0 kq a0 l1 x16_2 = some (r1, r2, r3, r4)) ∧ Aside0 (kq ≤ k) ∧ Aside0 (wc.heap[gb269]? = some (.cells #[.int .i64 0, .int .i64 0, (.slice none 0 0)] 43 (0, 0))) ∧ Aside0 (Below w.heap.size w wc))
  case first =>
    have H := HC3.out
    clear HC3
    replace H := Option.bind_eq_some_iff.mp H
    obtain ⟨t270, A50, H⟩ := H
    replace H : (if t270 = true then (mat_Of.j0 k a0 l1 (decide ((l1.length : Int) > 64))) else (mat_Of.j0 k a0 l1 true)) = some (r1, r2, r3, r4) := H
    have A5 := Aside0.mk A50
    clear A50
    by_cases c6 : t270 = true
    · subst c6
      have H1 : (mat_Of.j0 k a0 l1 (decide ((l1.length : Int) > 64))) = some (r1, r2, r3, r4) := by rw [if_pos rfl] at H; exact H
      clear H
      have H := H1
      clear H1
      have H' := Aside0.mk H
      clear H
      go_wp2_with (first | ((with_reducible refine gate_callee (f := 49) rfl ?_); refine goesL_ (some 10) rfl rfl Tryd.func49 (by kernel_rfl) rfl #[.int .i64 a0] rfl (by (try simp only [List.map_toArray, List.map_cons, List.map_nil]); first | done | rfl | (simp only [List.length_drop, List.length_take]; rfl)) ?_; (with_reducible refine (mat_sized.calls a0 true _ A5.out).mono ?_); rintro e w' ⟨rfl, ⟨nd, rfl⟩⟩; refine ⟨_, rfl, ?_⟩))
      go_meet
      case rel => exact ⟨_, (decide ((l1.length : Int) > 64)), (by first | rfl | (simp; done) | (simp [*]; done)), H', ⟨by first | omega | exact Nat.le_refl _⟩, ⟨by (with_reducible repeat (first | refine blk_drewN ?_ _ | refine blk_drew ?_ | refine blk_alloc ?_ _)); exact BK269.out⟩, ⟨by repeat (first | (with_reducible first | exact HB.out | apply below_alloc | apply pw_below_drewN | apply below_drew1 | refine below_set ?_ GE269.out) | exact HB.out)⟩⟩
    · replace c6 := Bool.eq_false_iff.mpr c6
      subst c6
      have H1 : (mat_Of.j0 k a0 l1 true) = some (r1, r2, r3, r4) := by rw [if_neg (show ¬ (false = true) by decide)] at H; exact H
      clear H
      have H := H1
      clear H1
      have H' := Aside0.mk H
      clear H
      go_wp2_with (first | ((with_reducible refine gate_callee (f := 49) rfl ?_); refine goesL_ (some 10) rfl rfl Tryd.func49 (by kernel_rfl) rfl #[.int .i64 a0] rfl (by (try simp only [List.map_toArray, List.map_cons, List.map_nil]); first | done | rfl | (simp only [List.length_drop, List.length_take]; rfl)) ?_; (with_reducible refine (mat_sized.calls a0 false _ A5.out).mono ?_); rintro e w' ⟨rfl, ⟨nd, rfl⟩⟩; refine ⟨_, rfl, ?_⟩))
      go_meet
      case rel => exact ⟨_, (true), (by first | rfl | (simp; done) | (simp [*]; done)), H', ⟨by first | omega | exact Nat.le_refl _⟩, ⟨by (with_reducible repeat (first | refine blk_drewN ?_ _ | refine blk_drew ?_ | refine blk_alloc ?_ _)); exact BK269.out⟩, ⟨by repeat (first | (with_reducible first | exact HB.out | apply below_alloc | apply pw_below_drewN | apply below_drew1 | refine below_set ?_ GE269.out) | exact HB.out)⟩⟩
  case rest =>
    clear HC3
    try clear c1
    try clear p2
    try clear c4
    try clear c6
    obtain ⟨kq, x16_2, rfl, HA, HJ2, BK269, HB⟩ := hcut
    cases kq with
    | zero => exact absurd HA.out (by simp [mat_Of.j0])
    | succ kj2 =>
      have H := HA.out
      clear HA
      first | rw [mat_Of.j0] at H | simp only [mat_Of.j0] at H
      by_cases c7 : x16_2 = true
      · subst c7
        have H1 : (some (0, 0, ([] : List Int), some 2)) = some (r1, r2, r3, r4) := by rw [if_pos rfl] at H; exact H
        clear H
        have H := H1
        clear H1
        simp only [Option.some.injEq, Prod.mk.injEq] at H
        obtain ⟨rfl, rfl, rfl, rfl⟩ := H
        try go_wp2
        have n0_ := Aside0.mk (blk_drew BK269.out)
        have n1_ := Aside0.mk (below_drew1 HB.out)
        clear BK269
        clear HB
        have BK269 := n0_
        have HB := n1_
        clear n0_ n1_
        refine start_ (n := 4) (S := fun w' => w'.cell? ⟨3, 0, none⟩ = some (.iface 111 (.pointer (some (Errs.ea 2))))) (ds := []) #[false, false, false, false] (by kernel_rfl) rfl rfl ((hgl2 _ HB)) (fun hHeld => ?_)
        generalize wc.drew = w8 at BK269 HB hHeld ⊢
        refine pure_ (i := 0) (N := some 17) (v := ?_) (a' := ?_) #[true, false, false, false] rfl rfl (by kernel_rfl) (fun _ _ _ h => h) (Or.inl ⟨by rfl, ?_⟩) ?_ ?_
        rotate_left
        · intro w'
          go_simp
          with_reducible rfl
        rotate_left
        · simp only [Act.put, List.setIfInBounds_toArray, List.set_cons_zero, List.set_cons_succ, i64_w, i32_w]
          rfl
        refine take_ (i := 1) (N := some 18) (v := ?_) (a' := ?_) #[true, true, false, false] rfl rfl (by kernel_rfl) (fun _ _ _ h => h) (Or.inl ⟨by rfl, ?_⟩) hHeld ?_ ?_
        rotate_left
        · intro w' s0
          go_simp
          with_reducible rfl
        rotate_left
        · simp only [Act.put, List.setIfInBounds_toArray, List.set_cons_zero, List.set_cons_succ, i64_w, i32_w]
          rfl
        refine one_ (i := 2) (N := none) #[true, true, true, false] rfl rfl (by kernel_rfl) (by decide) (fun K hK => ?_)
        have hs9 : w8.cell? ⟨gb269, 0, none⟩ = some (.int .i64 0) := (blk_cell BK269.out 0).trans rfl
        have hfs9 := blk_frozen BK269.out 0
        have hs10 : w8.cell? ⟨gb269, 1, none⟩ = some (.int .i64 0) := (blk_cell BK269.out 1).trans rfl
        have hfs10 := blk_frozen BK269.out 1
        have hs11 : w8.cell? ⟨gb269, 2, none⟩ = some (.slice none 0 0) := (blk_cell BK269.out 2).trans rfl
        have hfs11 := blk_frozen BK269.out 2
        refine skip_ (w1 := ?_) (by rfl) rfl ?_ ?_
        rotate_left
        · go_simp
          rfl
        refine hK.out _ _ (((cell_far (p := ⟨gb269, _, none⟩) (by first | exact Nat.ne_of_lt (Nat.lt_of_lt_of_le (World.block_lt_of_cell? _ _ hglw2) GW269.out) | (rw [add_block]; exact Nat.ne_of_lt (Nat.lt_of_lt_of_le (World.block_lt_of_cell? _ _ hglw2) GW269.out)) | (show (Addr.add _ _).block ≠ _; rw [add_block]; exact Nat.ne_of_lt (Nat.lt_of_lt_of_le (World.block_lt_of_cell? _ _ hglw2) GW269.out)) | (dsimp only; exact Nat.ne_of_lt (Nat.lt_of_lt_of_le (World.block_lt_of_cell? _ _ hglw2) GW269.out))) _).trans (((cell_far (p := ⟨gb269, _, none⟩) (by first | exact Nat.ne_of_lt (Nat.lt_of_lt_of_le (World.block_lt_of_cell? _ _ hglw2) GW269.out) | (rw [add_block]; exact Nat.ne_of_lt (Nat.lt_of_lt_of_le (World.block_lt_of_cell? _ _ hglw2) GW269.out)) | (show (Addr.add _ _).block ≠ _; rw [add_block]; exact Nat.ne_of_lt (Nat.lt_of_lt_of_le (World.block_lt_of_cell? _ _ hglw2) GW269.out)) | (dsimp only; exact Nat.ne_of_lt (Nat.lt_of_lt_of_le (World.block_lt_of_cell? _ _ hglw2) GW269.out))) _).trans (((cell_far (p := ⟨gb269, _, none⟩) (by first | exact Nat.ne_of_lt (Nat.lt_of_lt_of_le (World.block_lt_of_cell? _ _ hglw2) GW269.out) | (rw [add_block]; exact Nat.ne_of_lt (Nat.lt_of_lt_of_le (World.block_lt_of_cell? _ _ hglw2) GW269.out)) | (show (Addr.add _ _).block ≠ _; rw [add_block]; exact Nat.ne_of_lt (Nat.lt_of_lt_of_le (World.block_lt_of_cell? _ _ hglw2) GW269.out)) | (dsimp only; exact Nat.ne_of_lt (Nat.lt_of_lt_of_le (World.block_lt_of_cell? _ _ hglw2) GW269.out))) _).trans (hHeld))))))) (fun hHeld => ?_)
        clear hK K
        refine pure_ (i := 3) (N := some 5) (v := ?_) (a' := ?_) #[true, true, true, true] rfl rfl (by kernel_rfl) (fun _ _ _ h => h) (Or.inl ⟨by rfl, ?_⟩) ?_ ?_
        rotate_left
        · intro w'
          go_simp
          with_reducible rfl
        rotate_left
        · simp only [Act.put, List.setIfInBounds_toArray, List.set_cons_zero, List.set_cons_succ, i64_w, i32_w]
          rfl
        refine done_ (by kernel_rfl) ?_
        try go_wp2
        refine bodyPost_ret (results_ct rfl _ _ gb269 43 #[.int .i64 0, .int .i64 0, .slice none 0 0] (0, 0) _ rfl (by (with_reducible repeat (first | refine blk_drewN ?_ _ | refine blk_drew ?_ | refine blk_alloc ?_ _)); refine blk_put (cs := #[.int .i64 0, .int .i64 0, .slice none 0 0]) ?_ 2 _ rfl; (with_reducible repeat (first | refine blk_drewN ?_ _ | refine blk_drew ?_ | refine blk_alloc ?_ _)); refine blk_put (cs := #[.int .i64 0, .int .i64 0, .slice none 0 0]) ?_ 1 _ rfl; (with_reducible repeat (first | refine blk_drewN ?_ _ | refine blk_drew ?_ | refine blk_alloc ?_ _)); refine blk_put (cs := #[.int .i64 0, .int .i64 0, .slice none 0 0]) ?_ 0 _ rfl; (with_reducible repeat (first | refine blk_drewN ?_ _ | refine blk_drew ?_ | refine blk_alloc ?_ _)); exact BK269.out) Tryd.underlying43 rfl (by kernel_rfl)) rfl ?_
        exact ⟨_, by first | rfl | (simp [errW_none, errW_some] <;> rfl) | (simp [*, errW_none, errW_some] <;> rfl), by first | exact Kd.R_nil _ _ _ _ _ | exact Kd.N_nil _ _ _ _ _ | exact Kd.V_nil _ _ _ _ _ | exact Kd.Q_nil _ _ _ _ _ | exact Kd.S_nil _ _ _ _ _, by repeat (first | (with_reducible first | exact HB.out | apply below_alloc | apply pw_below_drewN | apply below_drew1 | refine below_set ?_ GE269.out) | exact HB.out)⟩
      · replace c7 := Bool.eq_false_iff.mpr c7
        subst c7
        have H1 : (mat_Of.l0 kj2 a0 l1 (l1.length : Int) 0 (l1.length : Int) a0 ([] : List Int)) = some (r1, r2, r3, r4) := by rw [if_neg (show ¬ (false = true) by decide)] at H; exact H
        clear H
        have H := H1
        clear H1
        have H' := Aside0.mk H
        clear H
        go_wp2_with (first | ((with_reducible refine gate_dst (N := 6) rfl ?_); (try (refine gate_guard (by rfl) ?_; dsimp only)); refine box_event ?hg (N := 6) ?hd (cs := #[.int .i64 0, .int .i64 0, .slice none 0 0]) (t := 43) ?hr ?_; (case hd => rfl); (case hg => rfl); (case hr => first | (go_simp; done) | (go_simp; rfl)); intro gb271 hg w12 hbox hb; have n0_ := Aside0.mk (blk_below (g := gb269) (o := .cells #[.int .i64 0, .int .i64 0, .slice none 0 0] 43 (0, 0)) (by (with_reducible repeat (first | refine blk_drewN ?_ _ | refine blk_drew ?_ | refine blk_alloc ?_ _)); exact BK269.out) hb); have n1_ := Aside0.mk (below_step (by repeat (first | (with_reducible first | exact HB.out | apply below_alloc | apply pw_below_drewN | apply below_drew1 | refine below_set ?_ GE269.out) | exact HB.out)) hb); have n2_ := Aside0.mk (hbox); have n3_ := Aside0.mk ((by rw [hg]; exact (below_size (by repeat (first | (with_reducible first | exact HB.out | apply below_alloc | apply pw_below_drewN | apply below_drew1 | refine below_set ?_ GE269.out) | exact HB.out))) : w.heap.size ≤ gb271)); have n4_ := Aside0.mk ((by rw [hg]; exact (below_size (by repeat (first | (with_reducible first | exact HB.out | apply below_alloc | apply pw_below_drewN | apply below_drew1 | refine below_set ?_ GE269.out) | exact HB.out))) : w.heap.size ≤ gb271)); have n5_ := Aside0.mk ((by rw [hg]; exact Nat.ne_of_lt (blk_lt (g := gb269) (o := .cells #[.int .i64 0, .int .i64 0, .slice none 0 0] 43 (0, 0)) (by (with_reducible repeat (first | refine blk_drewN ?_ _ | refine blk_drew ?_ | refine blk_alloc ?_ _)); exact BK269.out)) : gb269 ≠ gb271)); have n6_ := Aside0.mk ((by rw [hg]; exact Nat.ne_of_gt (blk_lt (g := gb269) (o := .cells #[.int .i64 0, .int .i64 0, .slice none 0 0] 43 (0, 0)) (by (with_reducible repeat (first | refine blk_drewN ?_ _ | refine blk_drew ?_ | refine blk_alloc ?_ _)); exact BK269.out)) : gb271 ≠ gb269)); clear BK269; clear HB; have BK269 := n0_; have HB := n1_; have BK271 := n2_; have GW271 := n3_; have GE271 := n4_; have NB269_271 := n5_; have NB271_269 := n6_; clear n0_ n1_ n2_ n3_ n4_ n5_ n6_; clear hb hbox hg; have hnb13 := NB271_269.out; have hnc13 := NB269_271.out; have hcz14_0 : w12.cell? ⟨gb271, 0, none⟩ = some (.int .i64 0) := (blk_cell BK271.out 0).trans rfl; have hcz14_1 : w12.cell? ⟨gb271, 1, none⟩ = some (.int .i64 0) := (blk_cell BK271.out 1).trans rfl; have hcz14_2 : w12.cell? ⟨gb271, 2, none⟩ = some (.slice none 0 0) := (blk_cell BK271.out 2).trans rfl; have hfz14_0 := blk_frozen BK271.out 0; have hfz14_1 := blk_frozen BK271.out 1; have hfz14_2 := blk_frozen BK271.out 2))
        go_loopg [25] kj2 (fun kq v25 w' => ∃ (x25_2 : Int) (x270000_2 : Int) (x270001_2 : Int) (x272002_2 : List Int) (u272002 : Value), v25 = .int .i64 x25_2 ∧ Aside0 (mat_Of.l0 kq a0 l1 (l1.length : Int) x25_2 (l1.length : Int) a0 x272002_2 = some (r1, r2, r3, r4)) ∧ Aside0 (kq ≤ kj2) ∧ Aside0 (Kd.R (Kd.int .u8) 5 w' w.heap.size (fun _ => True) u272002 x272002_2) ∧ Aside0 (w'.heap[gb269]? = some (.cells #[.int .i64 x270000_2, .int .i64 x270001_2, (.slice none 0 0)] 43 (0, 0))) ∧ Aside0 (w'.heap[gb271]? = some (.cells #[.int .i64 (l1.length : Int), .int .i64 a0, u272002] 43 (0, 0))) ∧ Aside0 (Below w.heap.size w w'))
        case atStart => exact ⟨(0), (0), (0), (([] : List Int)), (.slice none 0 0), (by first | rfl | (simp; done) | (simp [*]; done)), H', ⟨Nat.le_refl _⟩, ⟨by first | exact Kd.R_nil _ _ _ _ _ | exact Kd.N_nil _ _ _ _ _ | exact Kd.V_nil _ _ _ _ _ | exact Kd.Q_nil _ _ _ _ _ | exact Kd.S_nil _ _ _ _ _⟩, ⟨by (with_reducible repeat (first | refine blk_drewN ?_ _ | refine blk_drew ?_ | refine blk_alloc ?_ _)); refine blk_far ?_ NB269_271.out _; (with_reducible repeat (first | refine blk_drewN ?_ _ | refine blk_drew ?_ | refine blk_alloc ?_ _)); refine blk_far ?_ NB269_271.out _; (with_reducible repeat (first | refine blk_drewN ?_ _ | refine blk_drew ?_ | refine blk_alloc ?_ _)); refine blk_far ?_ NB269_271.out _; (with_reducible repeat (first | refine blk_drewN ?_ _ | refine blk_drew ?_ | refine blk_alloc ?_ _)); exact BK269.out⟩, ⟨by (with_reducible repeat (first | refine blk_drewN ?_ _ | refine blk_drew ?_ | refine blk_alloc ?_ _)); refine blk_put (cs := #[.int .i64 (l1.length : Int), .int .i64 a0, .slice none 0 0]) ?_ 2 _ rfl; (with_reducible repeat (first | refine blk_drewN ?_ _ | refine blk_drew ?_ | refine blk_alloc ?_ _)); refine blk_put (cs := #[.int .i64 (l1.length : Int), .int .i64 0, .slice none 0 0]) ?_ 1 _ rfl; (with_reducible repeat (first | refine blk_drewN ?_ _ | refine blk_drew ?_ | refine blk_alloc ?_ _)); refine blk_put (cs := #[.int .i64 0, .int .i64 0, .slice none 0 0]) ?_ 0 _ rfl; (with_reducible repeat (first | refine blk_drewN ?_ _ | refine blk_drew ?_ | refine blk_alloc ?_ _)); exact BK271.out⟩, ⟨by repeat (first | (with_reducible first | exact HB.out | apply below_alloc | apply pw_below_drewN | apply below_drew1 | refine below_set ?_ GE269.out | refine below_set ?_ GE271.out) | exact HB.out)⟩⟩
        case round =>
          clear H'
          try clear c1
          try clear p2
          try clear c4
          try clear c6
          try clear c7
          try clear c13
          try clear hcz14_0
          try clear hcz14_1
          try clear hcz14_2
          try clear hfz14_0
          try clear hfz14_1
          try clear hfz14_2
          try clear p2
          obtain ⟨x25_2, x270000_2, x270001_2, x272002_2, u272002, rfl, HA, HK2, HO_272002, BK269, BK271, HB⟩ := hrel
          cases gk with
          | zero => exact absurd HA.out (by simp [mat_Of.l0])
          | succ k2 =>
            have H := HA.out
            clear HA
            first | rw [mat_Of.l0] at H | simp only [mat_Of.l0] at H
            by_cases c15 : x25_2 < (l1.length : Int)
            · rw [if_pos c15] at H
              have c15b0 : decide (x25_2 < (l1.length : Int)) = true := decide_eq_true c15
              clear c15
              by_cases c16 : 0 ≤ x25_2
              · rw [if_pos c16] at H
                have c16b0 : decide (0 ≤ x25_2) = true := decide_eq_true c16
                clear c16
                by_cases c17 : x25_2 < (l1.length : Int)
                · rw [if_pos c17] at H
                  have c17b0 : decide (x25_2 < (l1.length : Int)) = true := decide_eq_true c17
                  clear c17
                  by_cases c18 : ((rd_L3 l1 x25_2).length : Int) = a0
                  · rw [if_pos c18] at H
                    have c18b0 : (((rd_L3 l1 x25_2).length : Int) == a0) = true := beq_iff_eq.mpr c18
                    have c18b1 : (((rd_L3 l1 x25_2).length : Int) != a0) = false := bne_eq_false_iff_eq.mpr c18
                    clear c18
                    by_cases c19 : x272002_2.length + (rd_L3 l1 x25_2).length < 140737488355328
                    · rw [if_pos c19] at H
                      have LMc19 := Aside0.mk c19
                      clear c19
                      obtain ⟨y273, hy273⟩ : ∃ y_ : List Int, y_ = (x272002_2 ++ (rd_L3 l1 x25_2)) := ⟨_, rfl⟩
                      replace H : (mat_Of.l0 k2 a0 l1 (l1.length : Int) (wrap64 (x25_2 + 1)) (l1.length : Int) a0 y273) = some (r1, r2, r3, r4) := by first | (rw [hy273]; with_reducible exact H) | (have H2_ := (Option.bind_some _ _).symm.trans H; rw [hy273]; with_reducible exact H2_) | (have H2_ := (Option.bind_some _ _).symm.trans H; with_reducible exact H2_) | with_reducible exact H | (rw [hy273]; exact H) | exact H
                      have Ny273 := Aside0.mk hy273
                      clear hy273
                      have H' := Aside0.mk H
                      clear H
                      have p272 : 0 ≤ (x25_2 : Int) := of_decide_eq_true (by first | (with_reducible assumption) | assumption)
                      have q272 : x25_2 < (l1.length : Int) := of_decide_eq_true (by first | (with_reducible assumption) | assumption)
                      obtain ⟨ad272, A272_0, c272_0, e272, hx272_0, hl272_0, hi272_0⟩ := at_L3 HR1.out x25_2 p272 q272
                      cases e272
                      replace hx272_0 := (HB.out.cell (World.block_lt_of_cell? w _ hx272_0)).trans hx272_0
                      have HR272_0 := Aside0.mk hi272_0
                      have HC272_0 := Aside0.mk hl272_0
                      clear hi272_0 hl272_0
                      replace p272 := eq_true p272
                      replace q272 := eq_true q272
                      have hnb20 := NB271_269.out
                      have hnc20 := NB269_271.out
                      have hcz21_0 : wr.cell? ⟨gb271, 0, none⟩ = some (.int .i64 (l1.length : Int)) := (blk_cell BK271.out 0).trans rfl
                      have hcz21_1 : wr.cell? ⟨gb271, 1, none⟩ = some (.int .i64 a0) := (blk_cell BK271.out 1).trans rfl
                      have hcz21_2 : wr.cell? ⟨gb271, 2, none⟩ = some (u272002) := (blk_cell BK271.out 2).trans rfl
                      have hfz21_0 := blk_frozen BK271.out 0
                      have hfz21_1 := blk_frozen BK271.out 1
                      have hfz21_2 := blk_frozen BK271.out 2
                      go_wp2_with (first | ((with_reducible refine gate_builtin (b := .append) (xs := #[.tmp 36, .tmp 37]) rfl ?_); (try (refine gate_guard (by rfl) ?_; dsimp only)); at_builtin; refine Kd.R_append_rows (Kd.int .u8) (w0 := w) w.heap.size rfl (.tmp 36) (.tmp 37) 39 5 (.int .u8 0) 1 rfl Tryd.underlying39 info5 rfl (by decide) (by omega) u272002 x272002_2 (rd_L3 l1 x25_2) _ _ _ (fun _ => True) (fun _ => False) rfl rfl ?aO ?aR (fun _ _ h => h) (fun _ h => h.elim) ?aF ?aB ?aS ?aL ?_; (case aR => repeat (first | exact (Kd.C_below HR272_0.out HB.out) | (with_reducible refine Kd.C_alloc ?_ _) | (with_reducible refine Kd.C_drewN ?_ _) | (with_reducible refine Kd.C_drew ?_))); (case aB => exact (by repeat (first | (with_reducible first | exact HB.out | apply below_alloc | apply pw_below_drewN | apply below_drew1 | refine below_set ?_ GE269.out | refine below_set ?_ GE271.out) | exact HB.out))); (case aF => exact (fun _ _ => trivial)); (case aO => exact (by (with_reducible repeat (first | apply Kd.R_alloc | apply Kd.R_drewN | apply Kd.R_drew)); exact HO_272002.out)); (case aS => exact (below_size (by repeat (first | (with_reducible first | exact HB.out | apply below_alloc | apply pw_below_drewN | apply below_drew1 | refine below_set ?_ GE269.out | refine below_set ?_ GE271.out) | exact HB.out)))); (case aL => have := LMc19.out; omega); intro v274 w22 ho hb hg hat; rw [← Ny273.out] at ho; have n0_ := Aside0.mk (blk_grown (g := gb269) (o := .cells #[.int .i64 x270000_2, .int .i64 x270001_2, .slice none 0 0] 43 (0, 0)) (by (with_reducible repeat (first | refine blk_drewN ?_ _ | refine blk_drew ?_ | refine blk_alloc ?_ _)); exact BK269.out) hg (Kd.R_ne HO_272002.out BK269.out (by decide))); have n1_ := Aside0.mk (blk_grown (g := gb271) (o := .cells #[.int .i64 (l1.length : Int), .int .i64 a0, u272002] 43 (0, 0)) (by (with_reducible repeat (first | refine blk_drewN ?_ _ | refine blk_drew ?_ | refine blk_alloc ?_ _)); exact BK271.out) hg (Kd.R_ne HO_272002.out BK271.out (by decide))); have n2_ := Aside0.mk (hb); have n3_ := Aside0.mk (ho); clear BK269; clear BK271; clear HB; clear HO_272002; have BK269 := n0_; have BK271 := n1_; have HB := n2_; have HO275 := n3_; clear n0_ n1_ n2_ n3_; clear ho hb hg hat; obtain ⟨Ao23, co23, eo23⟩ := Kd.R_slice HO275.out; subst eo23; have hcz24_0 : w22.cell? ⟨gb271, 0, none⟩ = some (.int .i64 (l1.length : Int)) := (blk_cell BK271.out 0).trans rfl; have hcz24_1 : w22.cell? ⟨gb271, 1, none⟩ = some (.int .i64 a0) := (blk_cell BK271.out 1).trans rfl; have hcz24_2 : w22.cell? ⟨gb271, 2, none⟩ = some (u272002) := (blk_cell BK271.out 2).trans rfl; have hfz24_0 := blk_frozen BK271.out 0; have hfz24_1 := blk_frozen BK271.out 1; have hfz24_2 := blk_frozen BK271.out 2))
                      go_roundg k2
                      case measure => have := HJ2.out; have := HK2.out; omega
                      case rel => exact ⟨(wrap64 (x25_2 + 1)), (x270000_2), (x270001_2), (y273), (.slice Ao23 y273.length co23), (by first | rfl | (simp; done) | (simp [*]; done)), H', ⟨by have := HJ2.out; have := HK2.out; omega⟩, ⟨by (with_reducible repeat (first | apply Kd.R_alloc | apply Kd.R_drewN | apply Kd.R_drew)); exact Kd.R_mono (Kd.R_far (p := ⟨gb271, 2, none⟩) (Kd.R_types HO275.out BK271.out (by decide)) (fun _ hk => hk.2) (.slice Ao23 y273.length co23)) (fun _ hk => trivial)⟩, ⟨by (with_reducible repeat (first | refine blk_drewN ?_ _ | refine blk_drew ?_ | refine blk_alloc ?_ _)); refine blk_far ?_ NB269_271.out _; (with_reducible repeat (first | refine blk_drewN ?_ _ | refine blk_drew ?_ | refine blk_alloc ?_ _)); exact BK269.out⟩, ⟨by (with_reducible repeat (first | refine blk_drewN ?_ _ | refine blk_drew ?_ | refine blk_alloc ?_ _)); refine blk_put (cs := #[.int .i64 (l1.length : Int), .int .i64 a0, u272002]) ?_ 2 _ rfl; (with_reducible repeat (first | refine blk_drewN ?_ _ | refine blk_drew ?_ | refine blk_alloc ?_ _)); exact BK271.out⟩, ⟨by repeat (first | (with_reducible first | exact HB.out | apply below_alloc | apply pw_below_drewN | apply below_drew1 | refine below_set ?_ GE269.out | refine below_set ?_ GE271.out) | exact HB.out)⟩⟩
                    · rw [if_neg c19] at H
                      exact absurd H (by simp)
                  · rw [if_neg c18] at H
                    have c18b0 : (((rd_L3 l1 x25_2).length : Int) == a0) = false := beq_eq_false_iff_ne.mpr c18
                    have c18b1 : (((rd_L3 l1 x25_2).length : Int) != a0) = true := bne_iff_ne.mpr c18
                    simp only [Option.some.injEq, Prod.mk.injEq] at H
                    obtain ⟨rfl, rfl, rfl, rfl⟩ := H
                    have p272 : 0 ≤ (x25_2 : Int) := of_decide_eq_true (by first | (with_reducible assumption) | assumption)
                    have q272 : x25_2 < (l1.length : Int) := of_decide_eq_true (by first | (with_reducible assumption) | assumption)
                    obtain ⟨ad272, A272_0, c272_0, e272, hx272_0, hl272_0, hi272_0⟩ := at_L3 HR1.out x25_2 p272 q272
                    cases e272
                    replace hx272_0 := (HB.out.cell (World.block_lt_of_cell? w _ hx272_0)).trans hx272_0
                    have HR272_0 := Aside0.mk hi272_0
                    have HC272_0 := Aside0.mk hl272_0
                    clear hi272_0 hl272_0
                    replace p272 := eq_true p272
                    replace q272 := eq_true q272
                    try go_wp2
                    have n0_ := Aside0.mk (Kd.R_drew HO_272002.out)
                    have n1_ := Aside0.mk (blk_drew BK269.out)
                    have n2_ := Aside0.mk (blk_drew BK271.out)
                    have n3_ := Aside0.mk (below_drew1 HB.out)
                    clear HO_272002
                    clear BK269
                    clear BK271
                    clear HB
                    have HO_272002 := n0_
                    have BK269 := n1_
                    have BK271 := n2_
                    have HB := n3_
                    clear n0_ n1_ n2_ n3_
                    refine start_ (n := 4) (S := fun w' => w'.cell? ⟨3, 0, none⟩ = some (.iface 111 (.pointer (some (Errs.ea 2))))) (ds := []) #[false, false, false, false] (by kernel_rfl) rfl rfl ((hgl2 _ HB)) (fun hHeld => ?_)
                    generalize wr.drew = w25 at HO_272002 BK269 BK271 HB hHeld ⊢
                    refine pure_ (i := 0) (N := some 33) (v := ?_) (a' := ?_) #[true, false, false, false] rfl rfl (by kernel_rfl) (fun _ _ _ h => h) (Or.inl ⟨by rfl, ?_⟩) ?_ ?_
                    rotate_left
                    · intro w'
                      go_simp
                      with_reducible rfl
                    rotate_left
                    · simp only [Act.put, List.setIfInBounds_toArray, List.set_cons_zero, List.set_cons_succ, i64_w, i32_w]
                      rfl
                    refine take_ (i := 1) (N := some 34) (v := ?_) (a' := ?_) #[true, true, false, false] rfl rfl (by kernel_rfl) (fun _ _ _ h => h) (Or.inl ⟨by rfl, ?_⟩) hHeld ?_ ?_
                    rotate_left
                    · intro w' s0
                      go_simp
                      with_reducible rfl
                    rotate_left
                    · simp only [Act.put, List.setIfInBounds_toArray, List.set_cons_zero, List.set_cons_succ, i64_w, i32_w]
                      rfl
                    refine one_ (i := 2) (N := none) #[true, true, true, false] rfl rfl (by kernel_rfl) (by decide) (fun K hK => ?_)
                    have hs26 : w25.cell? ⟨gb269, 0, none⟩ = some (.int .i64 x270000_2) := (blk_cell BK269.out 0).trans rfl
                    have hfs26 := blk_frozen BK269.out 0
                    have hns26_1 := NB271_269.out
                    have hms26_1 := NB269_271.out
                    have hs27 : w25.cell? ⟨gb269, 1, none⟩ = some (.int .i64 x270001_2) := (blk_cell BK269.out 1).trans rfl
                    have hfs27 := blk_frozen BK269.out 1
                    have hns27_1 := NB271_269.out
                    have hms27_1 := NB269_271.out
                    have hs28 : w25.cell? ⟨gb269, 2, none⟩ = some (.slice none 0 0) := (blk_cell BK269.out 2).trans rfl
                    have hfs28 := blk_frozen BK269.out 2
                    have hns28_1 := NB271_269.out
                    have hms28_1 := NB269_271.out
                    refine skip_ (w1 := ?_) (by rfl) rfl ?_ ?_
                    rotate_left
                    · go_simp
                      rfl
                    refine hK.out _ _ (((cell_far (p := ⟨gb269, _, none⟩) (by first | exact Nat.ne_of_lt (Nat.lt_of_lt_of_le (World.block_lt_of_cell? _ _ hglw2) GW269.out) | (rw [add_block]; exact Nat.ne_of_lt (Nat.lt_of_lt_of_le (World.block_lt_of_cell? _ _ hglw2) GW269.out)) | (show (Addr.add _ _).block ≠ _; rw [add_block]; exact Nat.ne_of_lt (Nat.lt_of_lt_of_le (World.block_lt_of_cell? _ _ hglw2) GW269.out)) | (dsimp only; exact Nat.ne_of_lt (Nat.lt_of_lt_of_le (World.block_lt_of_cell? _ _ hglw2) GW269.out))) _).trans (((cell_far (p := ⟨gb269, _, none⟩) (by first | exact Nat.ne_of_lt (Nat.lt_of_lt_of_le (World.block_lt_of_cell? _ _ hglw2) GW269.out) | (rw [add_block]; exact Nat.ne_of_lt (Nat.lt_of_lt_of_le (World.block_lt_of_cell? _ _ hglw2) GW269.out)) | (show (Addr.add _ _).block ≠ _; rw [add_block]; exact Nat.ne_of_lt (Nat.lt_of_lt_of_le (World.block_lt_of_cell? _ _ hglw2) GW269.out)) | (dsimp only; exact Nat.ne_of_lt (Nat.lt_of_lt_of_le (World.block_lt_of_cell? _ _ hglw2) GW269.out))) _).trans (((cell_far (p := ⟨gb269, _, none⟩) (by first | exact Nat.ne_of_lt (Nat.lt_of_lt_of_le (World.block_lt_of_cell? _ _ hglw2) GW269.out) | (rw [add_block]; exact Nat.ne_of_lt (Nat.lt_of_lt_of_le (World.block_lt_of_cell? _ _ hglw2) GW269.out)) | (show (Addr.add _ _).block ≠ _; rw [add_block]; exact Nat.ne_of_lt (Nat.lt_of_lt_of_le (World.block_lt_of_cell? _ _ hglw2) GW269.out)) | (dsimp only; exact Nat.ne_of_lt (Nat.lt_of_lt_of_le (World.block_lt_of_cell? _ _ hglw2) GW269.out))) _).trans (hHeld))))))) (fun hHeld => ?_)
                    clear hK K
                    refine pure_ (i := 3) (N := some 5) (v := ?_) (a' := ?_) #[true, true, true, true] rfl rfl (by kernel_rfl) (fun _ _ _ h => h) (Or.inl ⟨by rfl, ?_⟩) ?_ ?_
                    rotate_left
                    · intro w'
                      go_simp
                      with_reducible rfl
                    rotate_left
                    · simp only [Act.put, List.setIfInBounds_toArray, List.set_cons_zero, List.set_cons_succ, i64_w, i32_w]
                      rfl
                    refine done_ (by kernel_rfl) ?_
                    try go_wp2
                    refine bodyPost_ret (results_ct rfl _ _ gb269 43 #[.int .i64 0, .int .i64 0, .slice none 0 0] (0, 0) _ rfl (by (with_reducible repeat (first | refine blk_drewN ?_ _ | refine blk_drew ?_ | refine blk_alloc ?_ _)); refine blk_put (cs := #[.int .i64 0, .int .i64 0, .slice none 0 0]) ?_ 2 _ rfl; (with_reducible repeat (first | refine blk_drewN ?_ _ | refine blk_drew ?_ | refine blk_alloc ?_ _)); refine blk_put (cs := #[.int .i64 0, .int .i64 x270001_2, .slice none 0 0]) ?_ 1 _ rfl; (with_reducible repeat (first | refine blk_drewN ?_ _ | refine blk_drew ?_ | refine blk_alloc ?_ _)); refine blk_put (cs := #[.int .i64 x270000_2, .int .i64 x270001_2, .slice none 0 0]) ?_ 0 _ rfl; (with_reducible repeat (first | refine blk_drewN ?_ _ | refine blk_drew ?_ | refine blk_alloc ?_ _)); exact BK269.out) Tryd.underlying43 rfl (by kernel_rfl)) rfl ?_
                    exact ⟨_, by first | rfl | (simp [errW_none, errW_some] <;> rfl) | (simp [*, errW_none, errW_some] <;> rfl), by first | exact Kd.R_nil _ _ _ _ _ | exact Kd.N_nil _ _ _ _ _ | exact Kd.V_nil _ _ _ _ _ | exact Kd.Q_nil _ _ _ _ _ | exact Kd.S_nil _ _ _ _ _, by repeat (first | (with_reducible first | exact HB.out | apply below_alloc | apply pw_below_drewN | apply below_drew1 | refine below_set ?_ GE269.out | refine below_set ?_ GE271.out) | exact HB.out)⟩
                · rw [if_neg c17] at H
                  exact absurd H (by simp)
              · rw [if_neg c16] at H
                exact absurd H (by simp)
            · rw [if_neg c15] at H
              have c15b0 : decide (x25_2 < (l1.length : Int)) = false := decide_eq_false c15
              clear c15
              simp only [Option.some.injEq, Prod.mk.injEq] at H
              obtain ⟨rfl, rfl, rfl, rfl⟩ := H
              have hnb29 := NB271_269.out
              have hnc29 := NB269_271.out
              have hcz30_0 : wr.cell? ⟨gb271, 0, none⟩ = some (.int .i64 (l1.length : Int)) := (blk_cell BK271.out 0).trans rfl
              have hcz30_1 : wr.cell? ⟨gb271, 1, none⟩ = some (.int .i64 a0) := (blk_cell BK271.out 1).trans rfl
              have hcz30_2 : wr.cell? ⟨gb271, 2, none⟩ = some (u272002) := (blk_cell BK271.out 2).trans rfl
              have hfz30_0 := blk_frozen BK271.out 0
              have hfz30_1 := blk_frozen BK271.out 1
              have hfz30_2 := blk_frozen BK271.out 2
              have hcz31_0 : wr.cell? ⟨gb269, 0, none⟩ = some (.int .i64 x270000_2) := (blk_cell BK269.out 0).trans rfl
              have hcz31_1 : wr.cell? ⟨gb269, 1, none⟩ = some (.int .i64 x270001_2) := (blk_cell BK269.out 1).trans rfl
              have hcz31_2 : wr.cell? ⟨gb269, 2, none⟩ = some (.slice none 0 0) := (blk_cell BK269.out 2).trans rfl
              have hfz31_0 := blk_frozen BK269.out 0
              have hfz31_1 := blk_frozen BK269.out 1
              have hfz31_2 := blk_frozen BK269.out 2
              obtain ⟨Ao32, co32, eo32⟩ := Kd.R_slice HO_272002.out
              subst eo32
              go_wp2
              refine bodyPost_ret (results_ct rfl _ _ gb269 43 #[.int .i64 (l1.length : Int), .int .i64 a0, .slice Ao32 x272002_2.length co32] (0, 0) _ rfl (by (with_reducible repeat (first | refine blk_drewN ?_ _ | refine blk_drew ?_ | refine blk_alloc ?_ _)); refine blk_put (cs := #[.int .i64 (l1.length : Int), .int .i64 a0, .slice none 0 0]) ?_ 2 _ rfl; (with_reducible repeat (first | refine blk_drewN ?_ _ | refine blk_drew ?_ | refine blk_alloc ?_ _)); refine blk_put (cs := #[.int .i64 (l1.length : Int), .int .i64 x270001_2, .slice none 0 0]) ?_ 1 _ rfl; (with_reducible repeat (first | refine blk_drewN ?_ _ | refine blk_drew ?_ | refine blk_alloc ?_ _)); refine blk_put (cs := #[.int .i64 x270000_2, .int .i64 x270001_2, .slice none 0 0]) ?_ 0 _ rfl; (with_reducible repeat (first | refine blk_drewN ?_ _ | refine blk_drew ?_ | refine blk_alloc ?_ _)); exact BK269.out) Tryd.underlying43 rfl (by kernel_rfl)) rfl ?_
              exact ⟨_, by first | rfl | (simp [errW_none, errW_some] <;> rfl) | (simp [*, errW_none, errW_some] <;> rfl), by (with_reducible repeat (first | apply Kd.R_alloc | apply Kd.R_drewN | apply Kd.R_drew)); exact Kd.R_mono (Kd.R_far (p := ⟨gb269, 2, none⟩) (Kd.R_far (p := ⟨gb269, 1, none⟩) (Kd.R_far (p := ⟨gb269, 0, none⟩) (Kd.R_types HO_272002.out BK269.out (by decide)) (fun _ hk => hk.2) (.int .i64 (l1.length : Int))) (fun _ hk => hk.2) (.int .i64 a0)) (fun _ hk => hk.2) (.slice Ao32 x272002_2.length co32)) (fun _ hk => trivial), by repeat (first | (with_reducible first | exact HB.out | apply below_alloc | apply pw_below_drewN | apply below_drew1 | refine below_set ?_ GE269.out | refine below_set ?_ GE271.out) | exact HB.out)⟩

end Go.Proofs.YtnnondbimdmcaaaDoor.F

namespace Go.Proofs.YtnnondbimdmcaaaDoor
open Go.RowKit Go.Proofs.YtnnondbimdmcaaaDoorW.PrintWords Go.Proofs.YtnnondbimdmcaaaDoorW.PrintLast Go.Proofs.YtnnondbimdmcaaaDoorW.PrintMore
open Go.Proofs.YtnnondbimdmcaaaDoor.F
set_option linter.unusedVariables false
set_option linter.unusedSectionVars false
set_option linter.unusedSimpArgs false
variable [Errs]

set_option maxHeartbeats 800000 in
theorem gf_kernel.calls (k : Nat) (a b c r : Int) (g : Nat) (w : World) (hc : w.heap[g]? = some (.cells #[.int .u8 c] 5 (0, 0))) (h : gf_Mul.f k c b = some r) :
    Calls Tryd.prog 76 #[.int .u8 a, .int .u8 b, .pointer (some ⟨g, 0, none⟩)] w fun e w' => e = .returned (.int .u8 (Go.bits .xor .u8 a r)) ∧ Drawn0 w w' := by
  have hcell : w.cell? ⟨g, 0, none⟩ = some (.int .u8 c) := (blk_cell hc 0).trans rfl
  have A1 := Aside0.mk h
  clear h hc
  go_enter Tryd.func76, Tryd.ntmps76
  go_wp2_with (go_at_call 63; go_loud ((with_reducible refine (gf_Mul.calls k c b r _ A1.out).mono ?_); rintro e w1 ⟨rfl, ⟨nd, rfl⟩⟩))
  go_ret
  exact ⟨by first | rfl | (simp; done) | (simp [*]; done), by repeat (first | exact Drawn0.refl _ | apply Drawn0.step)⟩


theorem take_encs {α : Type} {enc : α → Value} (cur : List Value) (n : Nat) (xs : List α) (h : cur.take n = encs enc xs) (m : Nat) (hm : m ≤ n) : cur.take m = encs enc (xs.take m) := by
  have : (cur.take n).take m = (encs enc xs).take m := by rw [h]
  rw [List.take_take, Nat.min_eq_left hm] at this
  rw [this]; simp [encs, List.map_take]

/-- copy(out, xs): xs a slice of numbers that is read, no longer than out, a row of the call's own. -/
theorem copy_in {k : IntKind} {P : Program} {w0 W : World} {ops : Array Oper} {rest : List Oper} {o : Oper} {a : Act} {Q : Exit → Act → World → Prop} (hgd : o.guard = none) {N : Tmp} (_hd : o.dst = some N) (d s : Operand) (dT sT : TypeId)
    (ho : o.op = .call { callee := .builtin .copy, args := #[d, s], argTypes := #[dT, sT] }) (elem : TypeId) (hu : P.underlying dT = some (.slice elem)) (hsz : (P.info? elem).map (·.size) = some 1)
    (v : Value) (A : Option Addr) (n c : Nat) (xs zs : List Int) (hd : a.eval d = v) (hs : a.eval s = .slice A n c) (base : Nat) (ok : Nat → Prop)
    (hv : Kd.R (Kd.int k) elem W base ok v zs) (hr : Kd.C (Kd.int k) W A n xs) (hle : n ≤ zs.length) (hB : Below base w0 W)
    (h : ∀ w', Kd.R (Kd.int k) elem w' base ok v (xs ++ zs.drop n) → Below base w0 w' → wpList P ops Q rest (a.put o.dst (goInt n)) w') : wpList P ops Q (o :: rest) a W := by
  have hl : xs.length = n := hr.1
  rcases Nat.eq_zero_or_pos n with h0 | hp
  · obtain ⟨dp, cd, rfl⟩ := Kd.R_slice hv
    subst h0
    obtain rfl : xs = [] := List.eq_nil_of_length_eq_zero hl
    refine wpList_copy_nothing hgd d s dT sT ho elem hu hsz dp A _ _ 0 c hd hs (by simp) ?_
    exact h W (by simpa using hv) hB
  · obtain ⟨g, cap, rfl, hg, hgl, cells, hcells⟩ := Kd.R_form hv (by omega)
    have hown := Kd.own_of_R hv
    obtain ⟨hlen, hx⟩ := hown
    rcases hx with ⟨hx, _⟩ | ⟨g', cap', cur, hx, hb', hh, hnc, hcm, hcs, htk⟩
    · cases hx
    · injection hx with hx1 hx2 hx3
      injection hx1 with hx1
      injection hx1 with hx1
      subst hx1 hx3
      obtain ⟨ad, rfl, hcell⟩ := hr.2.2 hp
      rw [Nat.mul_one] at hcs htk
      refine wpList_copy_splice hgd d s dT sT ho elem hu hsz _ _ zs.length cap n c hd hs g 0 cur.toList elem (by simpa using hh) (encs (Value.int k) xs) (by rw [encs_length, hl]; exact (Nat.min_eq_left hle).symm) ?_ (by rw [encs_length, hl]; simp; omega) (by intro u hu; obtain ⟨x, _, rfl⟩ := List.mem_map.1 hu; rfl) base w0 hB hb' ?_
      · intro _
        refine ⟨rfl, ad, rfl, fun j u hj => ?_⟩
        have hjl : j < xs.length := by
          have := (List.getElem?_eq_some_iff.1 hj).1
          rwa [encs_length] at this
        obtain ⟨cc, hc1, hc2, hc3⟩ := hcell j _ (List.getElem?_eq_getElem hjl)
        have hu' : u = Value.int k xs[j] := by
          simp [encs, hjl] at hj
          exact hj.symm
        have hcc : cc = [Value.int k xs[j]] := hc2
        subst hcc
        have := hc3 0 (Value.int k xs[j]) rfl
        rw [hu']
        have e1 : j * (Kd.int k).sz + 0 = j := by show j * 1 + 0 = j; omega
        rw [e1] at this
        exact this
      · intro w' hH hB'
        have hH' := hH.out
        rw [encs_length, hl]
        refine h w' (Kd.R_of_own ?_ hv.1) hB'
        have hlen2 : (xs ++ zs.drop n).length = zs.length := by rw [List.length_append, List.length_drop]; omega
        have hwhole : cur.toList.take zs.length = encs (Value.int k) zs := htk
        refine ⟨by rw [encs_length, Nat.mul_one], .inr ⟨g, cap, (splice cur.toList 0 (encs (Value.int k) xs)).toArray, by rw [hlen2], hb', hH', by rw [hlen2]; exact hnc, hcm, ?_, ?_⟩⟩
        · simp [splice, encs_length, hl]; omega
        · rw [hlen2, Nat.mul_one]
          have e3 : (cur.toList.drop n).take (zs.length - n) = encs (Value.int k) (zs.drop n) := by
            rw [← List.drop_take, hwhole]; simp [encs, List.map_drop]
          simp only [splice, List.take_zero, List.nil_append, Nat.zero_add, encs_length, hl]
          rw [List.take_append, encs_length, hl, e3, List.take_of_length_le (by rw [encs_length]; omega), encs_append]

def gf_each.l0 : Nat → Int → List Int → List Int → Int → Option (List Int)
  | 0, _, _, _, _ => none
  | k + 1, c, b, out, i => if i < (b.length : Int) then (gf_Mul.f k c (rd b i)).bind fun t => gf_each.l0 k c b (out.set i.toNat (Go.bits .xor .u8 (rd out i) t)) (i + 1) else some out
def gf_each.f (k : Nat) (a : List Int) (c : Int) (b : List Int) : Option (List Int) := if a.length ≤ b.length then gf_each.l0 k c b (a ++ List.replicate (b.length - a.length) 0) 0 else none
theorem gf_each.mono_l : ∀ k, (∀ y0 y1 y2 y3, LeO (gf_each.l0 k y0 y1 y2 y3) (gf_each.l0 (k + 1) y0 y1 y2 y3))
  | 0 => fun _ _ _ _ r h => by simp [gf_each.l0] at h
  | k + 1 => by
    have ih := gf_each.mono_l k
    intro y0 y1 y2 y3
    unfold gf_each.l0
    exact LeO.ite (LeO.bind (gf_Mul.mono _ _ _) (fun _ => ih _ _ _ _)) (LeO.refl _)
theorem gf_each.mono (a : List Int) (c : Int) (b : List Int) (k : Nat) : LeO (gf_each.f k a c b) (gf_each.f (k + 1) a c b) := by unfold gf_each.f; exact LeO.ite (gf_each.mono_l k _ _ _ _) (LeO.refl _)

theorem info5e : (Tryd.prog.info? 5).map (fun i => (i.zero, i.size, i.bytes)) = some (some (.int .u8 0), 1, 1) := by kernel_rfl
theorem size5e : (Tryd.prog.info? 5).map (·.size) = some 1 := by kernel_rfl
theorem int_max (p q n : Nat) (h : max p q = n) : max (p : Int) (q : Int) = (n : Int) := by omega

theorem C_at_ {k : IntKind} {w : World} {A : Option Addr} {n : Nat} {xs : List Int} (h : Kd.C (Kd.int k) w A n xs) (i : Int) (h0 : 0 ≤ i) (h1 : i < n) :
    ∃ ad, A = some ad ∧ w.cell? (ad.add i.toNat) = some (.int k (rd xs i)) := by
  obtain ⟨ad, cc, rfl, hl, hk, hc⟩ := ReadsRow.get_ h 0 i h0 h1
  have hcc : cc = [Value.int k (xs.getD i.toNat 0)] := hk
  subst hcc
  have := hc 0 _ rfl
  have e1 : i.toNat * (Kd.int k).sz + 0 = i.toNat := by show i.toNat * 1 + 0 = i.toNat; omega
  rw [e1] at this
  exact ⟨ad, rfl, this⟩

def EachPost (w : World) (r : List Int) (e : Ending) (w' : World) : Prop := ∃ v0_ : Value, e = .returned v0_ ∧ Kd.R (Kd.int .u8) 5 w' w.heap.size (fun _ => True) v0_ r ∧ Below w.heap.size w w'

attribute [local go_sem] max2_int min2_int max_two min_two
set_option maxHeartbeats 1600000 in
set_option maxRecDepth 100000 in
theorem gf_each.calls (k : Nat) (A0 : Option Addr) (c0 : Nat) (l0 : List Int) (A1 : Option Addr) (c1 : Nat) (l1 : List Int) (c : Int) (g : Nat) (r : List Int) (w : World)
    (hr0 : Kd.C (Kd.int .u8) w A0 l0.length l0) (hr1 : Kd.C (Kd.int .u8) w A1 l1.length l1) (hg : w.heap[g]? = some (.cells #[.int .u8 c] 5 (0, 0))) (hm0 : l0.length ≤ 140737488355328) (hm1 : l1.length ≤ 140737488355328) (h : gf_each.f k l0 c l1 = some r) :
    Calls Tryd.prog 72 #[.slice A0 l0.length c0, .slice A1 l1.length c1, .func (.func 76) #[] #[.pointer (some ⟨g, 0, none⟩)]] w (EachPost w r) := by
  have hu39 := Tryd.underlying39
  unfold gf_each.f at h
  by_cases hle : l0.length ≤ l1.length
  rotate_left
  · rw [if_neg hle] at h; cases h
  rw [if_pos hle] at h
  have HR0 := Aside0.mk hr0
  have HR1 := Aside0.mk hr1
  have HG := Aside0.mk hg
  have HM0 := Aside0.mk hm0
  have HM1 := Aside0.mk hm1
  have HB := Aside0.mk (Below.refl w.heap.size w)
  have HA := Aside0.mk h
  have HL := Aside0.mk hle
  have hmx1 : (if l0.length < l1.length then (l1.length : Int) else (l0.length : Int)) = (l1.length : Int) := by split <;> omega
  have hmx2 : (if (l0.length : Int) < (l1.length : Int) then (l1.length : Int) else (l0.length : Int)) = (l1.length : Int) := by split <;> omega
  clear h hr0 hr1 hg hm0 hm1 hle
  go_enter Tryd.func72, Tryd.ntmps72
  go_wp2_with (first
    | ((with_reducible refine gate_dst (N := 15) rfl ?_); refine Kd.R_make (Kd.int .u8) _ 5 rfl (N := 15) rfl 39 _ _ rfl (l1.length : Int) rfl rfl Tryd.underlying39 (.int .u8 0) 1 info5e rfl (by decide) (by omega) 0 (ok := fun _ => True) (okp := fun _ => True) rfl (fun _ hk => hk) trivial (by omega) (by have := HM1.out; omega) (Below.refl _ _) (Nat.le_refl _) ?_; intro v1 w1 ho1 hb1 hg_ hnew_; clear hg_ hnew_; rw [Int.toNat_natCast] at ho1; have n1_ := Aside0.mk (Kd.R_lower ho1 (below_size HB.out)); have n2_ := Aside0.mk (below_step HB.out hb1); clear HB ho1 hb1; have HO := n1_; have HB := n2_; clear n1_ n2_)
    | ((with_reducible refine gate_dst (N := 18) rfl ?_); refine copy_in rfl (N := 18) rfl _ _ 39 39 rfl 5 Tryd.underlying39 size5e v1 A0 l0.length c0 l0 (List.replicate l1.length 0) rfl rfl w.heap.size (fun _ => True) HO.out (Kd.C_below HR0.out HB.out) (by have := HL.out; simpa using this) HB.out ?_; intro w2 ho2 hb2; rw [List.drop_replicate] at ho2; have HO2 := Aside0.mk ho2; have HB2 := Aside0.mk hb2; clear HO HB ho2 hb2; have HO := HO2; have HB := HB2; clear HO2 HB2))
  go_loopg [21] k (fun kq v21 w' => ∃ (i : Int) (out : List Int), v21 = .int .i64 i ∧ Aside0 (0 ≤ i) ∧ Aside0 (gf_each.l0 kq c l1 out i = some r) ∧ Aside0 (kq ≤ k) ∧ Aside0 (out.length = l1.length) ∧ Aside0 (Kd.R (Kd.int .u8) 5 w' w.heap.size (fun _ => True) v1 out) ∧ Aside0 (Below w.heap.size w w'))
  case atStart => exact ⟨0, _, rfl, ⟨by omega⟩, HA, ⟨Nat.le_refl _⟩, ⟨by have := HL.out; simp; omega⟩, HO, HB⟩
  case round =>
    clear HA HO HB
    obtain ⟨i, out, rfl, H0, HA, HK, HN, HO, HB⟩ := hrel
    cases gk with
    | zero => exact absurd HA.out (by simp [gf_each.l0])
    | succ k1 =>
      have H := HA.out
      clear HA
      rw [gf_each.l0] at H
      by_cases hlt : i < (l1.length : Int)
      · rw [if_pos hlt] at H
        obtain ⟨t, hA, H⟩ := Option.bind_eq_some_iff.mp H
        have A1 := Aside0.mk hA
        have H' := Aside0.mk H
        clear hA H
        have h0 := H0.out
        obtain ⟨ad, rfl, hx⟩ := C_at_ (Kd.C_below HR1.out HB.out) i h0 hlt
        obtain ⟨go, cap, rfl, hgo, hgl, cells, hcells⟩ := Kd.R_form HO.out (by have := HN.out; omega)
        have hol : (out.length : Int) = (l1.length : Int) := by have := HN.out; omega
        have hol' : i < (out.length : Int) := by omega
        obtain ⟨hy, hyf⟩ := Kd.R_celln 0 HO.out i h0 hol'
        have HGO := Aside0.mk hgo
        have HOL := Aside0.mk hol
        clear hol hgo hgl hcells
        have hw1 : wrap64 (i + 1) = i + 1 := by have := HM1.out; unfold wrap64; omega
        go_wp2_with (go_at_call 76; (with_reducible refine (gf_kernel.calls k1 (rdOf 0 out i) (rd l1 i) c t g _ (blk_below HG.out HB.out) A1.out).mono ?_); rintro e w' ⟨rfl, ⟨nd, rfl⟩⟩)
        go_roundg k1
        case measure => have := HK.out; omega
        case rel => exact ⟨i + 1, out.set i.toNat (Go.bits .xor .u8 (rd out i) t), by first | rfl | simp [hw1], ⟨by omega⟩, H', ⟨by have := HK.out; omega⟩, ⟨by rw [List.length_set]; exact HN.out⟩, ⟨Kd.R_putn (Kd.R_drewN HO.out nd) i _⟩, ⟨below_set (pw_below_drewN HB.out nd) HGO.out⟩⟩
      · rw [if_neg hlt] at H
        obtain rfl := Option.some.inj H
        clear H
        go_wp2
        go_ret
        exact ⟨_, rfl, HO.out, HB.out⟩

theorem gf_scaled.calls (c : Int) (w : World) :
    Calls Tryd.prog 73 #[.int .u8 c] w fun e w' => e = .returned (.func (.func 76) #[] #[.pointer (some ⟨w.heap.size, 0, none⟩)]) ∧ w.alloc (.cells #[.int .u8 c] 5) = w' := by
  have hmf : ∀ (fn : Fn) (first cap : Array Value) (w : World), (Instr.makeFunc fn first cap).run Tryd.prog w = .ok (.func fn first cap) w := fun _ _ _ _ => rfl
  go_enter Tryd.func73, Tryd.ntmps73
  go_wp2
  go_ret
  exact ⟨rfl, rfl⟩

def gf_AddScaled.f (k : Nat) (a : List Int) (c : Int) (b : List Int) : Option (List Int) := if a.length ≤ 140737488355328 then (if b.length ≤ 140737488355328 then gf_each.f k a c b else none) else none
theorem gf_AddScaled.mono (a : List Int) (c : Int) (b : List Int) (k : Nat) : LeO (gf_AddScaled.f k a c b) (gf_AddScaled.f (k + 1) a c b) := LeO.ite (LeO.ite (gf_each.mono _ _ _ _) (LeO.refl _)) (LeO.refl _)
def gf_Scale.f (k : Nat) (c : Int) (b : List Int) : Option (List Int) := gf_AddScaled.f k [] c b
theorem gf_Scale.mono (c : Int) (b : List Int) (k : Nat) : LeO (gf_Scale.f k c b) (gf_Scale.f (k + 1) c b) := gf_AddScaled.mono _ _ _ _
theorem gf_AddScaled.both {k : Nat} {a : List Int} {c : Int} {b r : List Int} (h : gf_AddScaled.f k a c b = some r) : a.length ≤ 140737488355328 ∧ b.length ≤ 140737488355328 ∧ gf_each.f k a c b = some r := by
  unfold gf_AddScaled.f at h
  by_cases h0 : a.length ≤ 140737488355328
  · by_cases h1 : b.length ≤ 140737488355328
    · rw [if_pos h0, if_pos h1] at h; exact ⟨h0, h1, h⟩
    · rw [if_pos h0, if_neg h1] at h; cases h
  · rw [if_neg h0] at h; cases h

set_option maxHeartbeats 800000 in
theorem gf_AddScaled.calls (k : Nat) (A0 : Option Addr) (c0 : Nat) (l0 : List Int) (a1 : Int) (A2 : Option Addr) (c2 : Nat) (l2 : List Int) (r : List Int) (w : World)
    (hr0 : Kd.C (Kd.int .u8) w A0 l0.length l0) (hc0 : l0.length ≤ c0) (hr2 : Kd.C (Kd.int .u8) w A2 l2.length l2) (hc2 : l2.length ≤ c2) (h : gf_AddScaled.f k l0 a1 l2 = some r) :
    Calls Tryd.prog 65 #[.slice A0 l0.length c0, .int .u8 a1, .slice A2 l2.length c2] w fun e w' => ∃ v0_ : Value, e = .returned v0_ ∧ Kd.R (Kd.int .u8) 5 w' w.heap.size (fun _ => True) v0_ r ∧ Below w.heap.size w w' := by
  obtain ⟨hm0, hm2, h⟩ := gf_AddScaled.both h
  have hz : w.heap.size ≤ (w.alloc (.cells #[.int .u8 a1] 5)).heap.size := by simp
  have P1 := Aside0.mk (fun w1 (hb : w.alloc (.cells #[.int .u8 a1] 5) = w1) => gf_each.calls k A0 c0 l0 A2 c2 l2 a1 w.heap.size r w1 (by rw [← hb]; exact Kd.C_alloc hr0 _) (by rw [← hb]; exact Kd.C_alloc hr2 _) (by rw [← hb]; exact heap_alloc_new w _) hm0 hm2 h)
  clear hr0 hr2 hc0 hc2 hm0 hm2 h
  go_enter Tryd.func65, Tryd.ntmps65
  go_wp2_with (first
    | (go_at_call 73; (with_reducible refine (gf_scaled.calls a1 _).mono ?_); rintro e w1 ⟨rfl, hb⟩; have HW := Aside0.mk hb; clear hb)
    | (go_at_call 72; (with_reducible refine (P1.out _ HW.out).mono ?_); rintro e w2 ⟨v, rfl, ho, hb⟩; have HO := Aside0.mk ho; have HB := Aside0.mk hb; clear ho hb))
  go_ret
  have hW := HW.out
  subst hW
  exact ⟨_, rfl, Kd.R_lower HO.out hz, below_step ((Below.refl _ _).alloc (Nat.le_refl _) _) HB.out⟩

set_option maxHeartbeats 800000 in
theorem gf_Scale.calls (k : Nat) (a0 : Int) (A1 : Option Addr) (c1 : Nat) (l1 : List Int) (r : List Int) (w : World)
    (hr1 : Kd.C (Kd.int .u8) w A1 l1.length l1) (hc1 : l1.length ≤ c1) (h : gf_Scale.f k a0 l1 = some r) :
    Calls Tryd.prog 64 #[.int .u8 a0, .slice A1 l1.length c1] w fun e w' => ∃ v0_ : Value, e = .returned v0_ ∧ Kd.R (Kd.int .u8) 5 w' w.heap.size (fun _ => True) v0_ r ∧ Below w.heap.size w w' := by
  obtain ⟨hm0, hm2, h⟩ := gf_AddScaled.both h
  have hz : w.heap.size ≤ (w.alloc (.cells #[.int .u8 a0] 5)).heap.size := by simp
  have P1 : Aside0 (∀ w1, w.alloc (.cells #[.int .u8 a0] 5) = w1 → Calls Tryd.prog 72 #[.slice none 0 0, .slice A1 l1.length c1, .func (.func 76) #[] #[.pointer (some ⟨w.heap.size, 0, none⟩)]] w1 (EachPost w1 r)) := Aside0.mk (fun w1 (hb : w.alloc (.cells #[.int .u8 a0] 5) = w1) => gf_each.calls k none 0 [] A1 c1 l1 a0 w.heap.size r w1 ⟨rfl, by simp, fun h => absurd h (Nat.lt_irrefl 0)⟩ (by rw [← hb]; exact Kd.C_alloc hr1 _) (by rw [← hb]; exact heap_alloc_new w _) hm0 hm2 h)
  clear hr1 hc1 hm0 hm2 h
  go_enter Tryd.func64, Tryd.ntmps64
  go_wp2_with (first
    | (go_at_call 73; (with_reducible refine (gf_scaled.calls a0 _).mono ?_); rintro e w1 ⟨rfl, hb⟩; have HW := Aside0.mk hb; clear hb)
    | (go_at_call 72; (with_reducible refine (P1.out _ HW.out).mono ?_); rintro e w2 ⟨v, rfl, ho, hb⟩; have HO := Aside0.mk ho; have HB := Aside0.mk hb; clear ho hb))
  go_ret
  have hW := HW.out
  subst hW
  exact ⟨_, rfl, Kd.R_lower HO.out hz, below_step ((Below.refl _ _).alloc (Nat.le_refl _) _) HB.out⟩

end Go.Proofs.YtnnondbimdmcaaaDoor

namespace Go.Proofs.YtnnondbimdmcaaaDoor
open Go.RowKit Go.Proofs.YtnnondbimdmcaaaDoorW.PrintWords Go.Proofs.YtnnondbimdmcaaaDoorW.PrintLast Go.Proofs.YtnnondbimdmcaaaDoorW.PrintMore
open Go.Proofs.YtnnondbimdmcaaaDoor.F
set_option linter.unusedVariables false
set_option linter.unusedSectionVars false
set_option linter.unusedSimpArgs false
variable [Errs]

/-- What a row of bytes leads to lies in a block of bytes. -/
def Typ (w : World) (A : Option Addr) (x : List Int) : Prop := ∀ ad, A = some ad → 0 < x.length → ∃ cells : Array Value, w.heap[ad.block]? = some (.cells cells 5 (0, 0))
/-- Rows of bytes, the list of them in block g. -/
def RowsN (w : World) (g n cap : Nat) (xs : List (List Int)) : Prop :=
  xs.length = n ∧ n ≤ cap ∧ cap ≤ maxLen ∧ ∃ cur : Array Value, w.heap[g]? = some (.cells cur 39 (0, 0)) ∧ cur.size = cap ∧
    ∀ (i : Nat) (x : List Int), xs[i]? = some x → ∃ (A : Option Addr) (c : Nat), cur[i]? = some (Value.slice A x.length c) ∧ x.length ≤ c ∧ Kd.C (Kd.int .u8) w A x.length x ∧ Typ w A x

abbrev rrd (xs : List (List Int)) (i : Int) : List Int := rd_L3 xs i
theorem rrd_at {xs : List (List Int)} {i : Int} (h0 : 0 ≤ i) (h1 : i < (xs.length : Int)) : xs[i.toNat]? = some (rrd xs i) := by
  have hl : i.toNat < xs.length := by omega
  simp [rd_L3, List.getD_eq_getElem?_getD, hl]

theorem Typ.ne {w : World} {A : Option Addr} {x : List Int} {g t : Nat} {cur : Array Value} (h : Typ w A x) (hc : w.heap[g]? = some (.cells cur t (0, 0))) (ht : t ≠ 5) : ∀ ad, A = some ad → 0 < x.length → ad.block ≠ g := by
  intro ad ha hl e
  obtain ⟨cells, hx⟩ := h ad ha hl
  rw [e, hc] at hx
  injection hx with hx
  injection hx with h1 h2
  exact ht h2
theorem Typ.below {w w1 : World} {A : Option Addr} {x : List Int} (h : Typ w A x) (hb : Below w.heap.size w w1) : Typ w1 A x := by
  intro ad ha hl
  obtain ⟨cells, hx⟩ := h ad ha hl
  exact ⟨cells, blk_below hx hb⟩
theorem RowsN.get {w : World} {g n cap : Nat} {xs : List (List Int)} (h : RowsN w g n cap xs) (i : Int) (h0 : 0 ≤ i) (h1 : i < (n : Int)) :
    ∃ (A : Option Addr) (c : Nat), w.cell? ⟨g, i.toNat, none⟩ = some (Value.slice A (rrd xs i).length c) ∧ w.frozen? ⟨g, i.toNat, none⟩ = false ∧ (rrd xs i).length ≤ c ∧ Kd.C (Kd.int .u8) w A (rrd xs i).length (rrd xs i) ∧ Typ w A (rrd xs i) := by
  obtain ⟨hl, _, _, cur, hc, _, hx⟩ := h
  obtain ⟨A, c, h2, h3, h4, h5⟩ := hx i.toNat _ (rrd_at h0 (by omega))
  exact ⟨A, c, (blk_cell hc _).trans h2, blk_frozen hc _, h3, h4, h5⟩
theorem RowsN.frz {w : World} {g n cap : Nat} {xs : List (List Int)} (h : RowsN w g n cap xs) (i : Int) : w.frozen? ⟨g, i.toNat, none⟩ = false := by
  obtain ⟨_, _, _, cur, hc, _⟩ := h
  exact blk_frozen hc _
theorem RowsN.len {w : World} {g n cap : Nat} {xs : List (List Int)} (h : RowsN w g n cap xs) : xs.length = n := h.1
theorem RowsN.lt {w : World} {g n cap : Nat} {xs : List (List Int)} (h : RowsN w g n cap xs) : g < w.heap.size := by
  obtain ⟨_, _, _, cur, hc, _⟩ := h
  exact blk_lt hc
theorem RowsN.blk {w : World} {g n cap : Nat} {xs : List (List Int)} (h : RowsN w g n cap xs) : ∃ cur : Array Value, w.heap[g]? = some (.cells cur 39 (0, 0)) := by
  obtain ⟨_, _, _, cur, hc, _⟩ := h
  exact ⟨cur, hc⟩
theorem RowsN.below {w w1 : World} {g n cap : Nat} {xs : List (List Int)} (h : RowsN w g n cap xs) (hb : Below w.heap.size w w1) : RowsN w1 g n cap xs := by
  obtain ⟨hl, hn, hm, cur, hc, hs, hx⟩ := h
  refine ⟨hl, hn, hm, cur, blk_below hc hb, hs, fun i x hi => ?_⟩
  obtain ⟨A, c, h2, h3, h4, h5⟩ := hx i x hi
  exact ⟨A, c, h2, h3, Kd.C_below h4 hb, h5.below hb⟩
theorem RowsN.drewN {w : World} {g n cap : Nat} {xs : List (List Int)} (h : RowsN w g n cap xs) (m : Nat) : RowsN (w.drewN m) g n cap xs := h.below (Drawn0.below (Drawn0.step (Drawn0.refl _) m))
/-- Some blocks that are none of bytes have turned (and others have come): rows of bytes are read as they were. -/
theorem Typ.keep {w w1 : World} {A : Option Addr} {x : List Int} (h : Typ w A x) (hk : ∀ (b : Nat) (cells : Array Value), w.heap[b]? = some (Obj.cells cells 5 (0, 0)) → w1.heap[b]? = w.heap[b]?) : Typ w1 A x := by
  intro ad ha hl
  obtain ⟨cells, hx⟩ := h ad ha hl
  exact ⟨cells, (hk _ _ hx).trans hx⟩
theorem C_typ {w w1 : World} {A : Option Addr} {x : List Int} (hr : Kd.C (Kd.int .u8) w A x.length x) (h : Typ w A x) (hk : ∀ (b : Nat) (cells : Array Value), w.heap[b]? = some (Obj.cells cells 5 (0, 0)) → w1.heap[b]? = w.heap[b]?) : Kd.C (Kd.int .u8) w1 A x.length x := by
  refine ⟨hr.1, hr.2.1, fun hn => ?_⟩
  obtain ⟨ad, ha, hx⟩ := hr.2.2 hn
  refine ⟨ad, ha, fun j p hj => ?_⟩
  obtain ⟨c, hc, hp, hcell⟩ := hx j p hj
  refine ⟨c, hc, hp, fun i u hu => ?_⟩
  obtain ⟨cells, hb⟩ := h ad ha hn
  have e := hk _ _ hb
  have h0 := hcell i u hu
  have hblk : ∀ m, (ad.add m).block = ad.block := fun m => by unfold Addr.add; split <;> rfl
  have : w1.cell? (ad.add (j * (Kd.int .u8).sz + i)) = w.cell? (ad.add (j * (Kd.int .u8).sz + i)) := by
    unfold World.cell?
    rw [hblk, e]
  exact this.trans h0
theorem keep_set {w : World} {g o t : Nat} {cur : Array Value} (v : Value) (hc : w.heap[g]? = some (.cells cur t (0, 0))) (ht : t ≠ 5) : ∀ (b : Nat) (cells : Array Value), w.heap[b]? = some (Obj.cells cells 5 (0, 0)) → (w.setCell ⟨g, o, none⟩ v).heap[b]? = w.heap[b]? := by
  intro b cells hb
  refine Below.heap_setCell w ⟨g, o, none⟩ v b ?_
  rintro rfl
  rw [hc] at hb
  injection hb with hb
  injection hb with h1 h2
  exact ht h2
theorem keep_grown {w w1 : World} {row : Option Nat} (hg : w.grownBy w1 row) (hr : ∀ b, row = some b → ∃ (cells : Array Value) (t : Nat), w.heap[b]? = some (Obj.cells cells t (0, 0)) ∧ t ≠ 5) : ∀ (b : Nat) (cells : Array Value), w.heap[b]? = some (Obj.cells cells 5 (0, 0)) → w1.heap[b]? = w.heap[b]? := by
  intro b cells hb
  refine hg.block b (blk_lt hb) ?_
  intro e
  obtain ⟨c2, t, h2, ht⟩ := hr b e.symm
  rw [hb] at h2
  injection h2 with h2
  injection h2 with h3 h4
  exact ht h4.symm
theorem RowsN.set {w : World} {g n cap : Nat} {xs : List (List Int)} (h : RowsN w g n cap xs) (i : Int) (h0 : 0 ≤ i) (h1 : i < (n : Int)) (A : Option Addr) (c : Nat) (x : List Int)
    (hc : x.length ≤ c) (hr : Kd.C (Kd.int .u8) w A x.length x) (hf : Typ w A x) : RowsN (w.setCell ⟨g, i.toNat, none⟩ (.slice A x.length c)) g n cap (xs.set i.toNat x) := by
  obtain ⟨hl, hn, hm, cur, hcur, hs, hx⟩ := h
  have K := keep_set (o := i.toNat) (.slice A x.length c) hcur (by decide)
  refine ⟨by rw [List.length_set]; exact hl, hn, hm, cur.setIfInBounds i.toNat (.slice A x.length c), by simpa using blk_set hcur i.toNat _, by simpa using hs, fun j y hj => ?_⟩
  by_cases e : j = i.toNat
  · subst e
    have hy : y = x := by
      rw [List.getElem?_set_self (by omega)] at hj
      exact (Option.some.inj hj).symm
    subst hy
    exact ⟨A, c, by rw [Array.getElem?_setIfInBounds_self_of_lt (by omega)], hc, C_typ hr hf K, hf.keep K⟩
  · rw [List.getElem?_set_ne (by omega)] at hj
    obtain ⟨A', c', h2, h3, h4, h5⟩ := hx j y hj
    exact ⟨A', c', by rw [Array.getElem?_setIfInBounds_ne (by omega)]; exact h2, h3, C_typ h4 h5 K, h5.keep K⟩
theorem RowsN.grown {w w1 : World} {g n cap : Nat} {xs : List (List Int)} {row : Option Nat} (h : RowsN w g n cap xs) (hg : w.grownBy w1 row) (hr : ∀ b, row = some b → ∃ (cells : Array Value) (t : Nat), w.heap[b]? = some (Obj.cells cells t (0, 0)) ∧ t ≠ 5 ∧ t ≠ 39) : RowsN w1 g n cap xs := by
  obtain ⟨hl, hn, hm, cur, hc, hs, hx⟩ := h
  have K := keep_grown hg (fun b e => by obtain ⟨c, t, h1, h2, _⟩ := hr b e; exact ⟨c, t, h1, h2⟩)
  refine ⟨hl, hn, hm, cur, blk_grown hc hg (fun e => ?_), hs, fun i x hi => ?_⟩
  · obtain ⟨c2, t, h1, _, h3⟩ := hr g e.symm
    rw [hc] at h1
    injection h1 with h1
    injection h1 with h4 h5
    exact h3 h5.symm
  · obtain ⟨A, c, h2, h3, h4, h5⟩ := hx i x hi
    exact ⟨A, c, h2, h3, C_typ h4 h5 K, h5.keep K⟩

theorem below_go {B : Nat} {w0 w w1 : World} (h : Below B w0 w) (hB : B ≤ w.heap.size) (k : Below w.heap.size w w1) : Below B w0 w1 := h.trans (k.mono hB)
theorem below_setB {B : Nat} {w0 w : World} {g : Nat} (o : Nat) (v : Value) (h : Below B w0 w) (hg : B ≤ g) : Below B w0 (w.setCell ⟨g, o, none⟩ v) := h.setCell (p := ⟨g, o, none⟩) hg v
/-- A slice of bytes of the call's own, as it is read. -/
theorem own_read {w : World} {base : Nat} {ok : Nat → Prop} {v : Value} {xs : List Int} (h : Kd.R (Kd.int .u8) 5 w base ok v xs) :
    ∃ A c, v = .slice A xs.length c ∧ xs.length ≤ c ∧ Kd.C (Kd.int .u8) w A xs.length xs ∧ Typ w A xs := by
  obtain ⟨A, c, rfl, hc, hr⟩ := Kd.R_reads h
  refine ⟨A, c, rfl, hc, hr, ?_⟩
  rintro ad rfl _
  obtain ⟨inner, ho⟩ := Kd.R_own h
  exact own_typed ho ad.block (by simp [Value.ownBlock])

def solve_clear.l0 : Nat → List (List Int) → Int → Int → Int → Option (List (List Int))
  | 0, _, _, _, _ => none
  | k + 1, rows, at_, col, i => if i < (rows.length : Int) then (if i = at_ then solve_clear.l0 k rows at_ col (i + 1) else if col < ((rrd rows i).length : Int) then (if rd (rrd rows i) col = 0 then solve_clear.l0 k rows at_ col (i + 1) else
      (gf_AddScaled.f k (rrd rows i) (rd (rrd rows i) col) (rrd rows at_)).bind fun s => solve_clear.l0 k (rows.set i.toNat s) at_ col (i + 1)) else none) else some rows
def solve_clear.f (k : Nat) (rows : List (List Int)) (at_ col : Int) : Option (List (List Int)) :=
  if 0 ≤ at_ then (if at_ < (rows.length : Int) then (if 0 ≤ col then (if col < ((rrd rows at_).length : Int) then
    (gf_Inv.f k (rd (rrd rows at_) col)).bind fun t => (gf_Scale.f k t.1 (rrd rows at_)).bind fun s => solve_clear.l0 k (rows.set at_.toNat s) at_ col 0 else none) else none) else none) else none

theorem solve_clear.mono_l : ∀ k, (∀ y0 y1 y2 y3, LeO (solve_clear.l0 k y0 y1 y2 y3) (solve_clear.l0 (k + 1) y0 y1 y2 y3))
  | 0 => fun _ _ _ _ r h => by simp [solve_clear.l0] at h
  | k + 1 => by
    have ih := solve_clear.mono_l k
    intro y0 y1 y2 y3
    unfold solve_clear.l0
    exact LeO.ite (LeO.ite (ih _ _ _ _) (LeO.ite (LeO.ite (ih _ _ _ _) (LeO.bind (gf_AddScaled.mono _ _ _ _) (fun _ => ih _ _ _ _))) (LeO.refl _))) (LeO.refl _)
theorem solve_clear.mono (rows : List (List Int)) (a c : Int) (k : Nat) : LeO (solve_clear.f k rows a c) (solve_clear.f (k + 1) rows a c) :=
  LeO.ite (LeO.ite (LeO.ite (LeO.ite (LeO.bind (gf_Inv.mono _ _) (fun _ => LeO.bind (gf_Scale.mono _ _ _) (fun _ => solve_clear.mono_l _ _ _ _ _))) (LeO.refl _)) (LeO.refl _)) (LeO.refl _)) (LeO.refl _)
def ClearPost (B : Nat) (w0 w : World) (g n cap : Nat) (r : List (List Int)) (e : Ending) (w' : World) : Prop := e = .returned (.tuple #[]) ∧ RowsN w' g n cap r ∧ Below B w0 w' ∧ KeepBut w w' g none

set_option maxHeartbeats 3200000 in
set_option maxRecDepth 100000 in
theorem solve_clear.calls (k g n cap : Nat) (rows : List (List Int)) (at_ col : Int) (r : List (List Int)) (B : Nat) (w0 w : World) (hR : RowsN w g n cap rows) (hB : Below B w0 w) (hBg : B ≤ g) (h : solve_clear.f k rows at_ col = some r) :
    Calls Tryd.prog 58 #[.slice (some ⟨g, 0, none⟩) n cap, .int .i64 at_, .int .i64 col] w (ClearPost B w0 w g n cap r) := by
  have hln := hR.len
  unfold solve_clear.f at h
  by_cases h0 : 0 ≤ at_
  rotate_left
  · rw [if_neg h0] at h; cases h
  by_cases h1 : at_ < (rows.length : Int)
  rotate_left
  · rw [if_pos h0, if_neg h1] at h; cases h
  by_cases h2 : 0 ≤ col
  rotate_left
  · rw [if_pos h0, if_pos h1, if_neg h2] at h; cases h
  by_cases h3 : col < ((rrd rows at_).length : Int)
  rotate_left
  · rw [if_pos h0, if_pos h1, if_pos h2, if_neg h3] at h; cases h
  rw [if_pos h0, if_pos h1, if_pos h2, if_pos h3] at h
  obtain ⟨⟨t1, t2⟩, hA, h⟩ := Option.bind_eq_some_iff.mp h
  obtain ⟨s, hs, h⟩ := Option.bind_eq_some_iff.mp h
  have A1 := Aside0.mk hA
  have A2 := Aside0.mk hs
  have A3 := Aside0.mk h
  have hn1 : at_ < (n : Int) := by omega
  obtain ⟨A, c, hcell, hfz, hcl, hcr, hoff⟩ := hR.get at_ h0 hn1
  have HR := Aside0.mk hR
  have HB := Aside0.mk hB
  have HBg := Aside0.mk hBg
  have HL := Aside0.mk hln
  have HC := Aside0.mk hcl
  have HCR := Aside0.mk hcr
  obtain ⟨ad, rfl, hx⟩ := C_at_ hcr col h2 h3
  clear hA hs h hB hBg hln hcl hcr hoff h1 hR
  go_enter Tryd.func58, Tryd.ntmps58
  go_wp2_with (first
    | (go_at_call 48; (with_reducible refine (gf_Inv.calls k (rd (rrd rows at_) col) t1 t2 _ A1.out).mono ?_); rintro e w' ⟨rfl, ⟨nd, rfl⟩⟩)
    | (go_at_call 64; (with_reducible refine (gf_Scale.calls k t1 (some ad) c (rrd rows at_) s _ (Kd.C_drewN HCR.out _) HC.out A2.out).mono ?_); rintro e w1 ⟨v, rfl, ho, hb⟩; have HR1 := Aside0.mk ((HR.out.drewN nd).below hb); have HB1 := Aside0.mk (below_step (pw_below_drewN (Below.refl _ _) nd) hb); obtain ⟨As, c2, rfl, hc2, hr2, hf2⟩ := own_read ho; have HC2 := Aside0.mk hc2; have HR2 := Aside0.mk hr2; have HF2 := Aside0.mk hf2; obtain ⟨_, _, hcell1, hfz1, _⟩ := HR1.out.get at_ h0 hn1; clear ho hb hc2 hr2 hf2))
  have hset := HR1.out.set at_ h0 hn1 As c2 s HC2.out HR2.out HF2.out
  have HS := Aside0.mk hset
  have HB2 := Aside0.mk (below_setB at_.toNat (.slice As s.length c2) (below_go HB.out (Nat.le_trans HBg.out (Nat.le_of_lt HR.out.lt)) HB1.out) HBg.out)
  have HK2 := Aside0.mk ((KeepBut.of_below HB1.out g none).set_ at_.toNat (.slice As s.length c2))
  clear hset
  go_loopg [31] k (fun kq v31 w' => ∃ (i : Int) (rs : List (List Int)), v31 = .int .i64 i ∧ Aside0 (0 ≤ i) ∧ Aside0 (solve_clear.l0 kq rs at_ col i = some r) ∧ Aside0 (kq ≤ k) ∧ Aside0 (RowsN w' g n cap rs) ∧ Aside0 (Below B w0 w') ∧ Aside0 (KeepBut w w' g none))
  case atStart => exact ⟨0, _, rfl, ⟨by omega⟩, A3, ⟨Nat.le_refl _⟩, HS, HB2, HK2⟩
  case round =>
    clear HR HB HR1 HB1 HC2 HR2 HF2 HS HB2 HK2 HC HCR hcell hfz hcell1 hfz1 hx A1 A2 A3 h3 h
    obtain ⟨i, rs, rfl, H0, HA, HK, HR, HB, HKP⟩ := hrel
    cases gk with
    | zero => exact absurd HA.out (by simp [solve_clear.l0])
    | succ k1 =>
      have H := HA.out
      clear HA
      rw [solve_clear.l0] at H
      have hln := HR.out.len
      have hi0 := H0.out
      by_cases hlt : i < (rs.length : Int)
      · rw [if_pos hlt] at H
        have hin : i < (n : Int) := by omega
        have hcm : n ≤ 9223372036854775807 := by obtain ⟨_, hq, hm, _⟩ := HR.out; unfold maxLen at hm; omega
        have hw1 : wrap64 (i + 1) = i + 1 := by unfold wrap64; omega
        by_cases he : i = at_
        · rw [if_pos he] at H
          have H' := Aside0.mk H
          clear H
          have c0 : (i == at_) = true := beq_iff_eq.mpr he
          have c1 : (i != at_) = false := bne_eq_false_iff_eq.mpr he
          clear hln hlt hcm he
          go_wp2
          go_roundg k1
          case measure => have := HK.out; omega
          case rel => exact ⟨i + 1, rs, by first | rfl | simp [hw1], ⟨by omega⟩, H', ⟨by have := HK.out; omega⟩, HR, HB, HKP⟩
        · rw [if_neg he] at H
          by_cases hc3 : col < ((rrd rs i).length : Int)
          rotate_left
          · rw [if_neg hc3] at H; cases H
          rw [if_pos hc3] at H
          have c0 : (i == at_) = false := beq_eq_false_iff_ne.mpr he
          have c1 : (i != at_) = true := bne_iff_ne.mpr he
          obtain ⟨Ai, ci, hcelli, hfzi, hcli, hcri, hoffi⟩ := HR.out.get i hi0 hin
          obtain ⟨adi, rfl, hxi⟩ := C_at_ hcri col h2 hc3
          have HCI := Aside0.mk hcli
          have HCRI := Aside0.mk hcri
          clear hcli hcri hoffi
          by_cases hz : rd (rrd rs i) col = 0
          · rw [if_pos hz] at H
            have H' := Aside0.mk H
            clear H
            have d0 : (rd (rrd rs i) col == 0) = true := beq_iff_eq.mpr hz
            have d1 : (rd (rrd rs i) col != 0) = false := bne_eq_false_iff_eq.mpr hz
            clear hln hlt hcm he hz
            go_wp2
            go_roundg k1
            case measure => have := HK.out; omega
            case rel => exact ⟨i + 1, rs, by first | rfl | simp [hw1], ⟨by omega⟩, H', ⟨by have := HK.out; omega⟩, HR, HB, HKP⟩
          · rw [if_neg hz] at H
            obtain ⟨s2, hs2, H⟩ := Option.bind_eq_some_iff.mp H
            have A4 := Aside0.mk hs2
            have H' := Aside0.mk H
            clear H hs2
            have d0 : (rd (rrd rs i) col == 0) = false := beq_eq_false_iff_ne.mpr hz
            have d1 : (rd (rrd rs i) col != 0) = true := bne_iff_ne.mpr hz
            obtain ⟨Aa, ca, hcella, hfza, hcla, hcra, _⟩ := HR.out.get at_ h0 hn1
            have HCA := Aside0.mk hcla
            have HCRA := Aside0.mk hcra
            have HLN := Aside0.mk hln
            clear hcla hcra hln hlt hcm he hz
            go_wp2
            refine start_ (n := 20) (S := fun w' => w'.cell? ⟨g, i.toNat, none⟩ = some (.slice (some adi) (rrd rs i).length ci) ∧ w'.cell? (adi.add col.toNat) = some (.int .u8 (rd (rrd rs i) col)) ∧ w'.cell? ⟨g, at_.toNat, none⟩ = some (.slice Aa (rrd rs at_).length ca)) (ds := [19]) #[false, false, false, false, false, false, false, false, false, false, false, false, false, false, false, false, false, false, false, false] (by kernel_rfl) rfl rfl ⟨hcelli, hxi, hcella⟩ (fun hHeld => ?_)
            refine pure_ (i := 0) (N := some 47) (v := ?_) (a' := ?_) #[true, false, false, false, false, false, false, false, false, false, false, false, false, false, false, false, false, false, false, false] rfl rfl (by kernel_rfl) (fun _ _ _ h => h) (Or.inl ⟨by rfl, ?_⟩) ?_ ?_
            rotate_left
            · intro w'
              go_simp
              with_reducible rfl
            rotate_left
            · simp only [Act.put, List.setIfInBounds_toArray, List.set_cons_zero, List.set_cons_succ, i64_w, i32_w]
              rfl
            refine pure_ (i := 1) (N := some 48) (v := ?_) (a' := ?_) #[true, true, false, false, false, false, false, false, false, false, false, false, false, false, false, false, false, false, false, false] rfl rfl (by kernel_rfl) (fun _ _ _ h => h) (Or.inl ⟨by rfl, ?_⟩) ?_ ?_
            rotate_left
            · intro w'
              go_simp
              with_reducible rfl
            rotate_left
            · simp only [Act.put, List.setIfInBounds_toArray, List.set_cons_zero, List.set_cons_succ, i64_w, i32_w]
              rfl
            refine pure_ (i := 2) (N := some 49) (v := ?_) (a' := ?_) #[true, true, true, false, false, false, false, false, false, false, false, false, false, false, false, false, false, false, false, false] rfl rfl (by kernel_rfl) (fun _ _ _ h => h) (Or.inl ⟨by rfl, ?_⟩) ?_ ?_
            rotate_left
            · intro w'
              go_simp
              with_reducible rfl
            rotate_left
            · simp only [Act.put, List.setIfInBounds_toArray, List.set_cons_zero, List.set_cons_succ, i64_w, i32_w]
              rfl
            refine pure_ (i := 3) (N := some 50) (v := ?_) (a' := ?_) #[true, true, true, true, false, false, false, false, false, false, false, false, false, false, false, false, false, false, false, false] rfl rfl (by kernel_rfl) (fun _ _ _ h => h) (Or.inl ⟨by rfl, ?_⟩) ?_ ?_
            rotate_left
            · intro w'
              go_simp
              with_reducible rfl
            rotate_left
            · simp only [Act.put, List.setIfInBounds_toArray, List.set_cons_zero, List.set_cons_succ, i64_w, i32_w]
              rfl
            refine pure_ (i := 4) (N := some 51) (v := ?_) (a' := ?_) #[true, true, true, true, true, false, false, false, false, false, false, false, false, false, false, false, false, false, false, false] rfl rfl (by kernel_rfl) (fun _ _ _ h => h) (Or.inl ⟨by rfl, ?_⟩) ?_ ?_
            rotate_left
            · intro w'
              go_simp
              with_reducible rfl
            rotate_left
            · simp only [Act.put, List.setIfInBounds_toArray, List.set_cons_zero, List.set_cons_succ, i64_w, i32_w]
              rfl
            refine take_ (i := 5) (N := some 52) (v := ?_) (a' := ?_) #[true, true, true, true, true, true, false, false, false, false, false, false, false, false, false, false, false, false, false, false] rfl rfl (by kernel_rfl) (fun _ _ _ h => h) (Or.inl ⟨by rfl, ?_⟩) hHeld ?_ ?_
            rotate_left
            · rintro w' ⟨s0, s1, s2⟩
              go_simp
              with_reducible rfl
            rotate_left
            · simp only [Act.put, List.setIfInBounds_toArray, List.set_cons_zero, List.set_cons_succ, i64_w, i32_w]
              rfl
            refine pure_ (i := 6) (N := some 53) (v := ?_) (a' := ?_) #[true, true, true, true, true, true, true, false, false, false, false, false, false, false, false, false, false, false, false, false] rfl rfl (by kernel_rfl) (fun _ _ _ h => h) (Or.inl ⟨by rfl, ?_⟩) ?_ ?_
            rotate_left
            · intro w'
              go_simp
              with_reducible rfl
            rotate_left
            · simp only [Act.put, List.setIfInBounds_toArray, List.set_cons_zero, List.set_cons_succ, i64_w, i32_w]
              rfl
            refine pure_ (i := 7) (N := some 54) (v := ?_) (a' := ?_) #[true, true, true, true, true, true, true, true, false, false, false, false, false, false, false, false, false, false, false, false] rfl rfl (by kernel_rfl) (fun _ _ _ h => h) (Or.inl ⟨by rfl, ?_⟩) ?_ ?_
            rotate_left
            · intro w'
              go_simp
              with_reducible rfl
            rotate_left
            · simp only [Act.put, List.setIfInBounds_toArray, List.set_cons_zero, List.set_cons_succ, i64_w, i32_w]
              rfl
            refine pure_ (i := 8) (N := some 55) (v := ?_) (a' := ?_) #[true, true, true, true, true, true, true, true, true, false, false, false, false, false, false, false, false, false, false, false] rfl rfl (by kernel_rfl) (fun _ _ _ h => h) (Or.inl ⟨by rfl, ?_⟩) ?_ ?_
            rotate_left
            · intro w'
              go_simp
              with_reducible rfl
            rotate_left
            · simp only [Act.put, List.setIfInBounds_toArray, List.set_cons_zero, List.set_cons_succ, i64_w, i32_w]
              rfl
            refine take_ (i := 9) (N := some 56) (v := ?_) (a' := ?_) #[true, true, true, true, true, true, true, true, true, true, false, false, false, false, false, false, false, false, false, false] rfl rfl (by kernel_rfl) (fun _ _ _ h => h) (Or.inl ⟨by rfl, ?_⟩) hHeld ?_ ?_
            rotate_left
            · rintro w' ⟨s0, s1, s2⟩
              go_simp
              with_reducible rfl
            rotate_left
            · simp only [Act.put, List.setIfInBounds_toArray, List.set_cons_zero, List.set_cons_succ, i64_w, i32_w]
              rfl
            refine pure_ (i := 10) (N := some 57) (v := ?_) (a' := ?_) #[true, true, true, true, true, true, true, true, true, true, true, false, false, false, false, false, false, false, false, false] rfl rfl (by kernel_rfl) (fun _ _ _ h => h) (Or.inl ⟨by rfl, ?_⟩) ?_ ?_
            rotate_left
            · intro w'
              go_simp
              with_reducible rfl
            rotate_left
            · simp only [Act.put, List.setIfInBounds_toArray, List.set_cons_zero, List.set_cons_succ, i64_w, i32_w]
              rfl
            refine pure_ (i := 11) (N := some 58) (v := ?_) (a' := ?_) #[true, true, true, true, true, true, true, true, true, true, true, true, false, false, false, false, false, false, false, false] rfl rfl (by kernel_rfl) (fun _ _ _ h => h) (Or.inl ⟨by rfl, ?_⟩) ?_ ?_
            rotate_left
            · intro w'
              go_simp
              with_reducible rfl
            rotate_left
            · simp only [Act.put, List.setIfInBounds_toArray, List.set_cons_zero, List.set_cons_succ, i64_w, i32_w]
              rfl
            refine take_ (i := 12) (N := some 59) (v := ?_) (a' := ?_) #[true, true, true, true, true, true, true, true, true, true, true, true, true, false, false, false, false, false, false, false] rfl rfl (by kernel_rfl) (fun _ _ _ h => h) (Or.inl ⟨by rfl, ?_⟩) hHeld ?_ ?_
            rotate_left
            · rintro w' ⟨s0, s1, s2⟩
              go_simp
              with_reducible rfl
            rotate_left
            · simp only [Act.put, List.setIfInBounds_toArray, List.set_cons_zero, List.set_cons_succ, i64_w, i32_w]
              rfl
            refine pure_ (i := 13) (N := some 60) (v := ?_) (a' := ?_) #[true, true, true, true, true, true, true, true, true, true, true, true, true, true, false, false, false, false, false, false] rfl rfl (by kernel_rfl) (fun _ _ _ h => h) (Or.inl ⟨by rfl, ?_⟩) ?_ ?_
            rotate_left
            · intro w'
              go_simp
              with_reducible rfl
            rotate_left
            · simp only [Act.put, List.setIfInBounds_toArray, List.set_cons_zero, List.set_cons_succ, i64_w, i32_w]
              rfl
            refine pure_ (i := 14) (N := some 61) (v := ?_) (a' := ?_) #[true, true, true, true, true, true, true, true, true, true, true, true, true, true, true, false, false, false, false, false] rfl rfl (by kernel_rfl) (fun _ _ _ h => h) (Or.inl ⟨by rfl, ?_⟩) ?_ ?_
            rotate_left
            · intro w'
              go_simp
              with_reducible rfl
            rotate_left
            · simp only [Act.put, List.setIfInBounds_toArray, List.set_cons_zero, List.set_cons_succ, i64_w, i32_w]
              rfl
            refine pure_ (i := 15) (N := some 62) (v := ?_) (a' := ?_) #[true, true, true, true, true, true, true, true, true, true, true, true, true, true, true, true, false, false, false, false] rfl rfl (by kernel_rfl) (fun _ _ _ h => h) (Or.inl ⟨by rfl, ?_⟩) ?_ ?_
            rotate_left
            · intro w'
              go_simp
              with_reducible rfl
            rotate_left
            · simp only [Act.put, List.setIfInBounds_toArray, List.set_cons_zero, List.set_cons_succ, i64_w, i32_w]
              rfl
            refine take_ (i := 16) (N := some 63) (v := ?_) (a' := ?_) #[true, true, true, true, true, true, true, true, true, true, true, true, true, true, true, true, true, false, false, false] rfl rfl (by kernel_rfl) (fun _ _ _ h => h) (Or.inl ⟨by rfl, ?_⟩) hHeld ?_ ?_
            rotate_left
            · rintro w' ⟨s0, s1, s2⟩
              go_simp
              with_reducible rfl
            rotate_left
            · simp only [Act.put, List.setIfInBounds_toArray, List.set_cons_zero, List.set_cons_succ, i64_w, i32_w]
              rfl
            refine one_ (i := 17) (N := some 64) #[true, true, true, true, true, true, true, true, true, true, true, true, true, true, true, true, true, true, false, false] rfl rfl (by kernel_rfl) (by decide) (fun K hK => ?_)
            refine goes_ Tryd.func65 (by kernel_rfl) rfl #[.slice (some adi) (rrd rs i).length ci, .int .u8 (rd (rrd rs i) col), .slice Aa (rrd rs at_).length ca] (by rfl) rfl rfl (by (try simp only [List.map_toArray, List.map_cons, List.map_nil]); first | done | rfl) ?_
            (with_reducible refine (gf_AddScaled.calls k1 (some adi) ci (rrd rs i) (rd (rrd rs i) col) Aa ca (rrd rs at_) s2 _ (Kd.C_drew HCRI.out) HCI.out (Kd.C_drew HCRA.out) HCA.out A4.out).mono ?_)
            rintro e w1 ⟨v, rfl, ho, hb⟩
            have HR1 := Aside0.mk (HR.out.below (w1 := w1) (below_step (below_drew (Below.refl _ _)) hb))
            have HB1 := Aside0.mk (below_step (below_drew (Below.refl _ _)) hb)
            obtain ⟨As, c2, rfl, hc2, hr2, hf2⟩ := own_read ho
            have HC2 := Aside0.mk hc2
            have HR2 := Aside0.mk hr2
            have HF2 := Aside0.mk hf2
            have hcell1 : w1.cell? ⟨g, i.toNat, none⟩ = some (.slice (some adi) (rrd rs i).length ci) := pw_cell_below hb hcelli
            have hcell2 : w1.cell? (adi.add col.toNat) = some (.int .u8 (rd (rrd rs i) col)) := pw_cell_below hb hxi
            have hcell3 : w1.cell? ⟨g, at_.toNat, none⟩ = some (.slice Aa (rrd rs at_).length ca) := pw_cell_below hb hcella
            have hfz1 := HR1.out.frz i
            clear ho hc2 hr2 hf2 hb
            refine ⟨_, rfl, ?_⟩
            refine hK.out _ _ ⟨hcell1, hcell2, hcell3⟩ (fun hHeld => ?_)
            clear hK K
            refine norm_ (a' := ?_) ?_ ?_
            rotate_left
            · show Act.put _ (some 64) _ = _
              simp only [Act.put, List.setIfInBounds_toArray, List.set_cons_zero, List.set_cons_succ, i64_w, i32_w]
              rfl
            refine pure_ (i := 18) (N := some 65) (v := ?_) (a' := ?_) #[true, true, true, true, true, true, true, true, true, true, true, true, true, true, true, true, true, true, true, false] rfl rfl (by kernel_rfl) (fun _ _ _ h => h) (Or.inl ⟨by rfl, ?_⟩) ?_ ?_
            rotate_left
            · intro w'
              go_simp
              with_reducible rfl
            rotate_left
            · simp only [Act.put, List.setIfInBounds_toArray, List.set_cons_zero, List.set_cons_succ, i64_w, i32_w]
              rfl
            refine last_ (i := 19) (N := none) #[true, true, true, true, true, true, true, true, true, true, true, true, true, true, true, true, true, true, true, true] rfl rfl (by kernel_rfl) (by decide) (fun K hK => ?_)
            refine skip_ (w1 := ?_) (by rfl) rfl ?_ ?_
            rotate_left
            · go_simp
              rfl
            refine hK.out _ _ ?_
            clear hK K
            refine done_ (by kernel_rfl) ?_
            have hset := HR1.out.set i hi0 hin As c2 s2 HC2.out HR2.out HF2.out
            have HS := Aside0.mk hset
            have HB2 := Aside0.mk (below_setB i.toNat (.slice As s2.length c2) (below_go HB.out (Nat.le_trans HBg.out (Nat.le_of_lt HR.out.lt)) HB1.out) HBg.out)
            have HK2 := Aside0.mk ((HKP.out.trans (KeepBut.of_below HB1.out g none) (.inl rfl)).set_ i.toNat (.slice As s2.length c2))
            clear hset
            go_wp2
            go_roundg k1
            case measure => have := HK.out; omega
            case rel => exact ⟨i + 1, rs.set i.toNat s2, by first | rfl | simp [hw1], ⟨by omega⟩, H', ⟨by have := HK.out; omega⟩, HS, HB2, HK2⟩
      · rw [if_neg hlt] at H
        obtain rfl := Option.some.inj H
        clear H
        have hlt' : ¬ i < (n : Int) := by omega
        clear hlt hln
        go_wp2
        go_end0
        exact ⟨rfl, HR.out, HB.out, HKP.out⟩

end Go.Proofs.YtnnondbimdmcaaaDoor

namespace Go.Proofs.YtnnondbimdmcaaaDoor.F
open Go.RowKit Go.Proofs.YtnnondbimdmcaaaDoorW.PrintWords Go.Proofs.YtnnondbimdmcaaaDoorW.PrintLast Go.Proofs.YtnnondbimdmcaaaDoorW.PrintMore
attribute [local go_sem] max2_int min2_int max_two min_two max_three min_three max_four min_four   -- for this text's walks alone
set_option linter.unusedVariables false
set_option linter.unusedSimpArgs false
set_option linter.unusedSectionVars false
open Go.Proofs.YtnnondbimdmcaaaDoor
variable [Errs]

/-! ### solve_find: function 57 -/
def solve_find.l0 : Nat → List (List Int) → Int → Int → Option (Int)
  | 0, _, _, _ => none
  | k + 1, x0, x2, x7 => if x7 < (x0.length : Int) then (if 0 ≤ x7 then (if 0 ≤ x2 then (if x2 < ((rd_L3 x0 x7).length : Int) then (if (rd (rd_L3 x0 x7) x2) = 0 then (solve_find.l0 k x0 x2 (wrap64 (x7 + 1))) else (some x7)) else (none)) else (none)) else (none)) else (some (-1))
def solve_find.f (k : Nat) (l0 : List (List Int)) (a1 : Int) (a2 : Int) : Option (Int) := solve_find.l0 k l0 a2 a1
theorem solve_find.mono_l : ∀ k, (∀ y0 y1 y2, LeO (solve_find.l0 k y0 y1 y2) (solve_find.l0 (k + 1) y0 y1 y2))
  | 0 => fun _ _ _ r h => by simp [solve_find.l0] at h
  | k + 1 => by
    have ih0 := solve_find.mono_l k
    · intro y0 y1 y2
      unfold solve_find.l0
      repeat' first
      | (with_reducible exact ih0 _ _ _)
      | (with_reducible exact LeO.refl _)
      | (with_reducible exact LeO.none _)
      | (with_reducible refine LeO.ite ?_ ?_)
      | (with_reducible refine LeO.bind ?_ (fun _ => ?_))
      | exact ih0 _ _ _
      | exact LeO.none _
      | refine LeO.ite ?_ ?_
      | refine LeO.bind ?_ (fun _ => ?_)
theorem solve_find.mono : ∀ a0 a1 a2 k, LeO (solve_find.f k a0 a1 a2) (solve_find.f (k + 1) a0 a1 a2) := by
  intro a0 a1 a2 k
  have ih0 := solve_find.mono_l k
  unfold solve_find.f
  repeat' first
      | (with_reducible exact ih0 _ _ _)
      | (with_reducible exact LeO.refl _)
      | (with_reducible exact LeO.none _)
      | (with_reducible refine LeO.ite ?_ ?_)
      | (with_reducible refine LeO.bind ?_ (fun _ => ?_))
      | exact ih0 _ _ _
      | exact LeO.none _
      | refine LeO.ite ?_ ?_
      | refine LeO.bind ?_ (fun _ => ?_)
set_option maxHeartbeats 8000000 in
set_option maxRecDepth 100000 in
theorem solve_find.calls (k : Nat) (A0 : Option Addr) (c0 : Nat) (l0 : List (List Int)) (a1 : Int) (a2 : Int) (r : Int) (w : World) (hr0 : Kd.C (Kd.slice 5 (Kd.int .u8)) w A0 l0.length l0) (hc0 : l0.length ≤ c0) (h : solve_find.f k l0 a1 a2 = some r) :
    Calls Tryd.prog 57 #[.slice A0 l0.length c0, .int .i64 a1, .int .i64 a2] w fun e w' => e = .returned (.int .i64 r) ∧ Drawn0 w w' := by
  have HR0 := Aside0.mk hr0
  have HC0 := Aside0.mk hc0
  clear hr0 hc0
  have H : (solve_find.l0 k l0 a2 a1) = some r := h
  clear h
  have H' := Aside0.mk H
  clear H
  go_enter Tryd.func57, Tryd.ntmps57
  go_wp2
  go_loopg [7] k (fun kq v7 w' => ∃ (x7_1 : Int), v7 = .int .i64 x7_1 ∧ Aside0 (solve_find.l0 kq l0 a2 x7_1 = some r) ∧ Aside0 (kq ≤ k) ∧ Drawn0 w w')
  case atStart => exact ⟨(a1), (by first | rfl | (simp; done) | (simp [*]; done)), H', ⟨Nat.le_refl _⟩, by repeat (first | exact Drawn0.refl _ | apply Drawn0.step)⟩
  case round =>
    clear H'
    try clear p2
    obtain ⟨x7_1, rfl, HA, HK1, ⟨m1, rfl⟩⟩ := hrel
    cases gk with
    | zero => exact absurd HA.out (by simp [solve_find.l0])
    | succ k1 =>
      have H := HA.out
      clear HA
      first | rw [solve_find.l0] at H | simp only [solve_find.l0] at H
      by_cases c4 : x7_1 < (l0.length : Int)
      · rw [if_pos c4] at H
        have c4b0 : decide (x7_1 < (l0.length : Int)) = true := decide_eq_true c4
        clear c4
        by_cases c5 : 0 ≤ x7_1
        · rw [if_pos c5] at H
          have c5b0 : decide (0 ≤ x7_1) = true := decide_eq_true c5
          clear c5
          by_cases c6 : 0 ≤ a2
          · rw [if_pos c6] at H
            have c6b0 : decide (0 ≤ a2) = true := decide_eq_true c6
            clear c6
            by_cases c7 : a2 < ((rd_L3 l0 x7_1).length : Int)
            · rw [if_pos c7] at H
              have c7b0 : decide (a2 < ((rd_L3 l0 x7_1).length : Int)) = true := decide_eq_true c7
              clear c7
              by_cases c8 : (rd (rd_L3 l0 x7_1) a2) = 0
              · rw [if_pos c8] at H
                have c8b0 : ((rd (rd_L3 l0 x7_1) a2) == 0) = true := beq_iff_eq.mpr c8
                have c8b1 : ((rd (rd_L3 l0 x7_1) a2) != 0) = false := bne_eq_false_iff_eq.mpr c8
                clear c8
                have H' := Aside0.mk H
                clear H
                have p425 : 0 ≤ (x7_1 : Int) := of_decide_eq_true (by first | (with_reducible assumption) | assumption)
                have q425 : x7_1 < (l0.length : Int) := of_decide_eq_true (by first | (with_reducible assumption) | assumption)
                obtain ⟨ad425, A425_0, c425_0, e425, hx425_0, hl425_0, hi425_0⟩ := at_L3 HR0.out x7_1 p425 q425
                cases e425
                have HR425_0 := Aside0.mk hi425_0
                have HC425_0 := Aside0.mk hl425_0
                clear hi425_0 hl425_0
                replace p425 := eq_true p425
                replace q425 := eq_true q425
                have p426 : 0 ≤ (a2 : Int) := of_decide_eq_true (by first | (with_reducible assumption) | assumption)
                have q426 : a2 < ((rd_L3 l0 x7_1).length : Int) := of_decide_eq_true (by first | (with_reducible assumption) | assumption)
                obtain ⟨ad426, e426, hx426_0⟩ := Kd.at_int HR425_0.out a2 p426 q426
                cases e426
                replace p426 := eq_true p426
                replace q426 := eq_true q426
                go_wp2
                go_roundg k1
                case measure => have := HK1.out; omega
                case rel => exact ⟨(wrap64 (x7_1 + 1)), (by first | rfl | (simp; done) | (simp [*]; done)), H', ⟨by have := HK1.out; omega⟩, by repeat (first | exact Drawn0.refl _ | apply Drawn0.step)⟩
              · rw [if_neg c8] at H
                have c8b0 : ((rd (rd_L3 l0 x7_1) a2) == 0) = false := beq_eq_false_iff_ne.mpr c8
                have c8b1 : ((rd (rd_L3 l0 x7_1) a2) != 0) = true := bne_iff_ne.mpr c8
                obtain rfl := Option.some.inj H
                have p425 : 0 ≤ (x7_1 : Int) := of_decide_eq_true (by first | (with_reducible assumption) | assumption)
                have q425 : x7_1 < (l0.length : Int) := of_decide_eq_true (by first | (with_reducible assumption) | assumption)
                obtain ⟨ad425, A425_0, c425_0, e425, hx425_0, hl425_0, hi425_0⟩ := at_L3 HR0.out x7_1 p425 q425
                cases e425
                have HR425_0 := Aside0.mk hi425_0
                have HC425_0 := Aside0.mk hl425_0
                clear hi425_0 hl425_0
                replace p425 := eq_true p425
                replace q425 := eq_true q425
                have p426 : 0 ≤ (a2 : Int) := of_decide_eq_true (by first | (with_reducible assumption) | assumption)
                have q426 : a2 < ((rd_L3 l0 x7_1).length : Int) := of_decide_eq_true (by first | (with_reducible assumption) | assumption)
                obtain ⟨ad426, e426, hx426_0⟩ := Kd.at_int HR425_0.out a2 p426 q426
                cases e426
                replace p426 := eq_true p426
                replace q426 := eq_true q426
                go_wp2
                go_ret
                exact ⟨by first | rfl | (simp; done) | (simp [*]; done), by repeat (first | exact Drawn0.refl _ | apply Drawn0.step)⟩
            · rw [if_neg c7] at H
              exact absurd H (by simp)
          · rw [if_neg c6] at H
            exact absurd H (by simp)
        · rw [if_neg c5] at H
          exact absurd H (by simp)
      · rw [if_neg c4] at H
        have c4b0 : decide (x7_1 < (l0.length : Int)) = false := decide_eq_false c4
        clear c4
        obtain rfl := Option.some.inj H
        go_wp2
        go_ret
        exact ⟨by first | rfl | (simp; done) | (simp [*]; done), by repeat (first | exact Drawn0.refl _ | apply Drawn0.step)⟩

end Go.Proofs.YtnnondbimdmcaaaDoor.F

namespace Go.Proofs.YtnnondbimdmcaaaDoor
open Go.RowKit Go.Proofs.YtnnondbimdmcaaaDoorW.PrintWords Go.Proofs.YtnnondbimdmcaaaDoorW.PrintLast Go.Proofs.YtnnondbimdmcaaaDoorW.PrintMore
open Go.Proofs.YtnnondbimdmcaaaDoor.F
set_option linter.unusedVariables false
set_option linter.unusedSectionVars false
set_option linter.unusedSimpArgs false
variable [Errs]

theorem RowsN.toC {w : World} {g n cap : Nat} {xs : List (List Int)} (h : RowsN w g n cap xs) : Kd.C (Kd.slice 5 (Kd.int .u8)) w (some ⟨g, 0, none⟩) n xs := by
  obtain ⟨hl, hn, hm, cur, hc, hs, hx⟩ := h
  refine ⟨hl, by unfold maxLen at hm; omega, fun hp => ⟨_, rfl, fun j p hj => ?_⟩⟩
  obtain ⟨A, c, h2, h3, h4, h5⟩ := hx j p hj
  refine ⟨[Value.slice A p.length c], rfl, ⟨A, c, rfl, h3, h4⟩, fun i u hu => ?_⟩
  cases i with
  | succ i => simp at hu
  | zero =>
    obtain rfl : Value.slice A p.length c = u := by simpa using hu
    have e1 : (⟨g, 0, none⟩ : Addr).add (j * (Kd.slice 5 (Kd.int .u8)).sz + 0) = ⟨g, j, none⟩ := by
      rw [add_plain]; show (⟨g, j * 1 + 0, none⟩ : Addr) = _; rw [Nat.mul_one, Nat.add_zero]
    rw [e1]
    exact (blk_cell hc _).trans h2

def swp (rows : List (List Int)) (a i : Int) : List (List Int) := (rows.set a.toNat (rrd rows i)).set i.toNat (rrd rows a)
def solve_reduce.l0 : Nat → List (List Int) → Int → Int → Int → List Int → Option (List (List Int) × List Int)
  | 0, _, _, _, _, _ => none
  | k + 1, rows, cols, col, at_, piv => if col < cols then (if at_ = (rows.length : Int) then some (rows, piv) else (solve_find.f k rows at_ col).bind fun i => if i < 0 then solve_reduce.l0 k rows cols (col + 1) at_ piv else
      (if at_ < (rows.length : Int) then (if i < (rows.length : Int) then (solve_clear.f k (swp rows at_ i) at_ col).bind fun rs => (if piv.length < 17592186044416 then solve_reduce.l0 k rs cols (col + 1) (at_ + 1) (piv ++ [col]) else none) else none) else none)) else some (rows, piv)
def solve_reduce.f (k : Nat) (rows : List (List Int)) (cols : Int) : Option (List (List Int) × List Int) := solve_reduce.l0 k rows cols 0 0 []

theorem info3e : (Tryd.prog.info? 3).map (fun i => (i.zero, i.size, i.bytes)) = some (some (.int .i64 0), 1, 8) := by kernel_rfl
def ReducePost (B : Nat) (w0 : World) (g n cap : Nat) (r : List (List Int)) (p : List Int) (e : Ending) (w' : World) : Prop :=
  ∃ v, e = .returned v ∧ Kd.R (Kd.int .i64) 3 w' B (fun k => k ≠ g) v p ∧ RowsN w' g n cap r ∧ Below B w0 w'

set_option maxHeartbeats 3200000 in
set_option maxRecDepth 100000 in
theorem solve_reduce.calls (k g n cap : Nat) (rows : List (List Int)) (cols : Int) (r : List (List Int)) (p : List Int) (B : Nat) (w0 w : World) (hR : RowsN w g n cap rows) (hB : Below B w0 w) (hBg : B ≤ g) (hcols : cols ≤ 1000) (h : solve_reduce.f k rows cols = some (r, p)) :
    Calls Tryd.prog 53 #[.slice (some ⟨g, 0, none⟩) n cap, .int .i64 cols] w (ReducePost B w0 g n cap r p) := by
  have HR := Aside0.mk hR
  have HB := Aside0.mk hB
  have HBg := Aside0.mk hBg
  have HA : Aside0 (solve_reduce.l0 k rows cols 0 0 [] = some (r, p)) := Aside0.mk h
  clear hR hB hBg h
  go_enter Tryd.func53, Tryd.ntmps53
  go_wp2
  go_step3
  go_wp2
  go_step3
  go_wp2
  go_loopg [5, 6, 10] k (fun kq v5 v6 v10 w' => ∃ (pv : Value) (piv : List Int) (at_ col : Int) (rs : List (List Int)), v5 = pv ∧ v6 = .int .i64 at_ ∧ v10 = .int .i64 col ∧ Aside0 (0 ≤ at_ ∧ 0 ≤ col ∧ at_ ≤ col) ∧ Aside0 (solve_reduce.l0 kq rs cols col at_ piv = some (r, p)) ∧ Aside0 (kq ≤ k) ∧ Aside0 (Kd.R (Kd.int .i64) 3 w' B (fun k => k ≠ g) pv piv) ∧ Aside0 (RowsN w' g n cap rs) ∧ Aside0 (Below B w0 w'))
  case atStart => exact ⟨_, [], 0, 0, rows, rfl, rfl, rfl, ⟨by omega, by omega, by omega⟩, HA, ⟨Nat.le_refl _⟩, ⟨Kd.R_nil _ _ _ _ _⟩, HR, HB⟩
  case round =>
    clear HA HR HB
    obtain ⟨pv, piv, at_, col, rs, rfl, rfl, rfl, H0, HA, HK, HP, HR, HB⟩ := hrel
    cases gk with
    | zero => exact absurd HA.out (by simp [solve_reduce.l0])
    | succ k1 =>
      have H := HA.out
      clear HA
      rw [solve_reduce.l0] at H
      obtain ⟨ha0, hc0, hac⟩ := H0.out
      have hln := HR.out.len
      have HL := Aside0.mk hln
      by_cases hlt : col < cols
      · rw [if_pos hlt] at H
        by_cases he : at_ = (rs.length : Int)
        · rw [if_pos he] at H
          obtain ⟨rfl, rfl⟩ : rs = r ∧ piv = p := by simpa using H
          clear H
          have c0 : (at_ == (n : Int)) = true := by rw [← hln]; exact beq_iff_eq.mpr he
          clear he hln
          go_wp2
          try rw [Exit.noGoto_ret]
          go_ret
          exact ⟨_, rfl, HP.out, HR.out, HB.out⟩
        · rw [if_neg he] at H
          have c0 : (at_ == (n : Int)) = false := by rw [← hln]; exact beq_eq_false_iff_ne.mpr he
          obtain ⟨i, hf, H⟩ := Option.bind_eq_some_iff.mp H
          have hw1 : wrap64 (col + 1) = col + 1 := by unfold wrap64; omega
          have hw2 : wrap64 (at_ + 1) = at_ + 1 := by unfold wrap64; omega
          have FIND : Aside0 (∀ w1, RowsN w1 g n cap rs → Calls Tryd.prog 57 #[.slice (some ⟨g, 0, none⟩) n cap, .int .i64 at_, .int .i64 col] w1 fun e w' => e = .returned (.int .i64 i) ∧ Drawn0 w1 w') := by
            refine ⟨fun w1 h1 => ?_⟩
            have := solve_find.calls k1 (some ⟨g, 0, none⟩) cap rs at_ col i w1 (by rw [hln]; exact h1.toC) (by rw [hln]; exact h1.2.1) hf
            rw [hln] at this
            exact this
          by_cases hi : i < 0
          · rw [if_pos hi] at H
            have H' := Aside0.mk H
            clear H hf he hln
            go_wp2_with (go_at_call 57; (with_reducible refine (FIND.out _ HR.out).mono ?_); rintro e w' ⟨rfl, ⟨nd, rfl⟩⟩)
            go_roundg k1
            case measure => have := HK.out; omega
            case rel => exact ⟨_, piv, at_, col + 1, rs, rfl, rfl, by first | rfl | simp [hw1], ⟨by omega, by omega, by omega⟩, H', ⟨by have := HK.out; omega⟩, ⟨Kd.R_drewN HP.out nd⟩, ⟨HR.out.drewN nd⟩, ⟨pw_below_drewN HB.out nd⟩⟩
          · rw [if_neg hi] at H
            by_cases hal : at_ < (rs.length : Int)
            rotate_left
            · rw [if_neg hal] at H; cases H
            by_cases hil : i < (rs.length : Int)
            rotate_left
            · rw [if_pos hal, if_neg hil] at H; cases H
            rw [if_pos hal, if_pos hil] at H
            obtain ⟨rc, hcl, H⟩ := Option.bind_eq_some_iff.mp H
            by_cases hpl : piv.length < 17592186044416
            rotate_left
            · rw [if_neg hpl] at H; cases H
            rw [if_pos hpl] at H
            have H' := Aside0.mk H
            have A1 := Aside0.mk hcl
            have HPL := Aside0.mk hpl
            have han : at_ < (n : Int) := by omega
            have hin : i < (n : Int) := by omega
            have hi0 : 0 ≤ i := by omega
            have FIND2 : Aside0 (∀ w1 pv, RowsN w1 g n cap rs → Kd.R (Kd.int .i64) 3 w1 B (fun k => k ≠ g) pv piv → Below B w0 w1 → Calls Tryd.prog 57 #[.slice (some ⟨g, 0, none⟩) n cap, .int .i64 at_, .int .i64 col] w1 fun e w' => e = .returned (.int .i64 i) ∧ RowsN w' g n cap rs ∧ Kd.R (Kd.int .i64) 3 w' B (fun k => k ≠ g) pv piv ∧ Below B w0 w') := by
              refine ⟨fun w1 pv h1 h2 h3 => (FIND.out w1 h1).mono ?_⟩
              rintro e w' ⟨rfl, ⟨nd, rfl⟩⟩
              exact ⟨rfl, h1.drewN nd, Kd.R_drewN h2 nd, pw_below_drewN h3 nd⟩
            clear H hf he hln hcl hpl hal hil hi FIND
            go_wp2_with (go_at_call 57; (with_reducible refine (FIND2.out _ _ HR.out HP.out HB.out).mono ?_); rintro e w2 ⟨rfl, q1, q2, q3⟩; have HR2 := Aside0.mk q1; have HP2 := Aside0.mk q2; have HB2 := Aside0.mk q3; clear q1 q2 q3)
            clear HR HP HB FIND2
            obtain ⟨Ai, ci, hcelli, hfzi, hcli, hcri, hoffi⟩ := HR2.out.get i hi0 hin
            obtain ⟨Aa, ca, hcella, hfza, hcla, hcra, hoffa⟩ := HR2.out.get at_ ha0 han
            have hsw := ((HR2.out.drewN 1).set at_ ha0 han Ai ci _ hcli (Kd.C_drewN hcri 1) hoffi)
            obtain ⟨cur0, hcur0⟩ := (HR2.out.drewN 1).blk
            have KS := keep_set (o := at_.toNat) (.slice Ai (rrd rs i).length ci) hcur0 (by decide)
            have hsw2 := hsw.set i hi0 hin Aa ca (rrd rs at_) hcla (C_typ (Kd.C_drewN hcra 1) hoffa KS) (hoffa.keep KS)
            have HSW := Aside0.mk hsw2
            have hbs := below_setB i.toNat (.slice Aa (rrd rs at_).length ca) (below_setB at_.toNat (.slice Ai (rrd rs i).length ci) (pw_below_drewN HB2.out 1) HBg.out) HBg.out
            have HBS := Aside0.mk hbs
            have hps : Kd.R (Kd.int .i64) 3 (((w2.drewN 1).setCell ⟨g, at_.toNat, none⟩ (.slice Ai (rrd rs i).length ci)).setCell ⟨g, i.toNat, none⟩ (.slice Aa (rrd rs at_).length ca)) B (fun k => k ≠ g) _ piv := Kd.R_far (Kd.R_far (Kd.R_drewN HP2.out 1) (fun _ h => h) _) (fun _ h => h) _
            have HPS := Aside0.mk hps
            obtain ⟨v9, hy9⟩ : ∃ v9, (w2.setCell ⟨g, at_.toNat, none⟩ (.slice Ai (rrd rs i).length ci)).cell? ⟨g, i.toNat, none⟩ = some v9 := by
              obtain ⟨A9, c9, h9, _⟩ := (HR2.out.set at_ ha0 han Ai ci _ hcli hcri hoffi).get i hi0 hin
              exact ⟨_, h9⟩
            clear hsw hsw2 hbs hps KS hcur0 hcli hcri hoffi hcla hcra hoffa
            refine start_ (n := 16) (S := fun w' => w'.cell? ⟨g, i.toNat, none⟩ = some (.slice Ai (rrd rs i).length ci) ∧ w'.cell? ⟨g, at_.toNat, none⟩ = some (.slice Aa (rrd rs at_).length ca) ∧ w'.frozen? ⟨g, i.toNat, none⟩ = false ∧ w'.frozen? ⟨g, at_.toNat, none⟩ = false) (ds := [13, 15]) #[false, false, false, false, false, false, false, false, false, false, false, false, false, false, false, false] (by kernel_rfl) rfl rfl ⟨hcelli, hcella, hfzi, hfza⟩ (fun hHeld => ?_)
            refine pure_ (i := 0) (N := some 23) (v := ?_) (a' := ?_) #[true, false, false, false, false, false, false, false, false, false, false, false, false, false, false, false] rfl rfl (by kernel_rfl) (fun _ _ _ h => h) (Or.inl ⟨by rfl, ?_⟩) ?_ ?_
            rotate_left
            · intro w'
              go_simp
              with_reducible rfl
            rotate_left
            · simp only [Act.put, List.setIfInBounds_toArray, List.set_cons_zero, List.set_cons_succ, i64_w, i32_w]
              rfl
            refine pure_ (i := 1) (N := some 24) (v := ?_) (a' := ?_) #[true, true, false, false, false, false, false, false, false, false, false, false, false, false, false, false] rfl rfl (by kernel_rfl) (fun _ _ _ h => h) (Or.inl ⟨by rfl, ?_⟩) ?_ ?_
            rotate_left
            · intro w'
              go_simp
              with_reducible rfl
            rotate_left
            · simp only [Act.put, List.setIfInBounds_toArray, List.set_cons_zero, List.set_cons_succ, i64_w, i32_w]
              rfl
            refine pure_ (i := 2) (N := some 25) (v := ?_) (a' := ?_) #[true, true, true, false, false, false, false, false, false, false, false, false, false, false, false, false] rfl rfl (by kernel_rfl) (fun _ _ _ h => h) (Or.inl ⟨by rfl, ?_⟩) ?_ ?_
            rotate_left
            · intro w'
              go_simp
              with_reducible rfl
            rotate_left
            · simp only [Act.put, List.setIfInBounds_toArray, List.set_cons_zero, List.set_cons_succ, i64_w, i32_w]
              rfl
            refine pure_ (i := 3) (N := some 26) (v := ?_) (a' := ?_) #[true, true, true, true, false, false, false, false, false, false, false, false, false, false, false, false] rfl rfl (by kernel_rfl) (fun _ _ _ h => h) (Or.inl ⟨by rfl, ?_⟩) ?_ ?_
            rotate_left
            · intro w'
              go_simp
              with_reducible rfl
            rotate_left
            · simp only [Act.put, List.setIfInBounds_toArray, List.set_cons_zero, List.set_cons_succ, i64_w, i32_w]
              rfl
            refine pure_ (i := 4) (N := some 27) (v := ?_) (a' := ?_) #[true, true, true, true, true, false, false, false, false, false, false, false, false, false, false, false] rfl rfl (by kernel_rfl) (fun _ _ _ h => h) (Or.inl ⟨by rfl, ?_⟩) ?_ ?_
            rotate_left
            · intro w'
              go_simp
              with_reducible rfl
            rotate_left
            · simp only [Act.put, List.setIfInBounds_toArray, List.set_cons_zero, List.set_cons_succ, i64_w, i32_w]
              rfl
            refine pure_ (i := 5) (N := some 28) (v := ?_) (a' := ?_) #[true, true, true, true, true, true, false, false, false, false, false, false, false, false, false, false] rfl rfl (by kernel_rfl) (fun _ _ _ h => h) (Or.inl ⟨by rfl, ?_⟩) ?_ ?_
            rotate_left
            · intro w'
              go_simp
              with_reducible rfl
            rotate_left
            · simp only [Act.put, List.setIfInBounds_toArray, List.set_cons_zero, List.set_cons_succ, i64_w, i32_w]
              rfl
            refine pure_ (i := 6) (N := some 29) (v := ?_) (a' := ?_) #[true, true, true, true, true, true, true, false, false, false, false, false, false, false, false, false] rfl rfl (by kernel_rfl) (fun _ _ _ h => h) (Or.inl ⟨by rfl, ?_⟩) ?_ ?_
            rotate_left
            · intro w'
              go_simp
              with_reducible rfl
            rotate_left
            · simp only [Act.put, List.setIfInBounds_toArray, List.set_cons_zero, List.set_cons_succ, i64_w, i32_w]
              rfl
            refine take_ (i := 7) (N := some 30) (v := ?_) (a' := ?_) #[true, true, true, true, true, true, true, true, false, false, false, false, false, false, false, false] rfl rfl (by kernel_rfl) (fun _ _ _ h => h) (Or.inl ⟨by rfl, ?_⟩) hHeld ?_ ?_
            rotate_left
            · rintro w' ⟨s0, s1, s2, s3⟩
              go_simp
              with_reducible rfl
            rotate_left
            · simp only [Act.put, List.setIfInBounds_toArray, List.set_cons_zero, List.set_cons_succ, i64_w, i32_w]
              rfl
            refine pure_ (i := 8) (N := some 31) (v := ?_) (a' := ?_) #[true, true, true, true, true, true, true, true, true, false, false, false, false, false, false, false] rfl rfl (by kernel_rfl) (fun _ _ _ h => h) (Or.inl ⟨by rfl, ?_⟩) ?_ ?_
            rotate_left
            · intro w'
              go_simp
              with_reducible rfl
            rotate_left
            · simp only [Act.put, List.setIfInBounds_toArray, List.set_cons_zero, List.set_cons_succ, i64_w, i32_w]
              rfl
            refine pure_ (i := 9) (N := some 32) (v := ?_) (a' := ?_) #[true, true, true, true, true, true, true, true, true, true, false, false, false, false, false, false] rfl rfl (by kernel_rfl) (fun _ _ _ h => h) (Or.inl ⟨by rfl, ?_⟩) ?_ ?_
            rotate_left
            · intro w'
              go_simp
              with_reducible rfl
            rotate_left
            · simp only [Act.put, List.setIfInBounds_toArray, List.set_cons_zero, List.set_cons_succ, i64_w, i32_w]
              rfl
            refine pure_ (i := 10) (N := some 33) (v := ?_) (a' := ?_) #[true, true, true, true, true, true, true, true, true, true, true, false, false, false, false, false] rfl rfl (by kernel_rfl) (fun _ _ _ h => h) (Or.inl ⟨by rfl, ?_⟩) ?_ ?_
            rotate_left
            · intro w'
              go_simp
              with_reducible rfl
            rotate_left
            · simp only [Act.put, List.setIfInBounds_toArray, List.set_cons_zero, List.set_cons_succ, i64_w, i32_w]
              rfl
            refine take_ (i := 11) (N := some 34) (v := ?_) (a' := ?_) #[true, true, true, true, true, true, true, true, true, true, true, true, false, false, false, false] rfl rfl (by kernel_rfl) (fun _ _ _ h => h) (Or.inl ⟨by rfl, ?_⟩) hHeld ?_ ?_
            rotate_left
            · rintro w' ⟨s0, s1, s2, s3⟩
              go_simp
              with_reducible rfl
            rotate_left
            · simp only [Act.put, List.setIfInBounds_toArray, List.set_cons_zero, List.set_cons_succ, i64_w, i32_w]
              rfl
            refine pure_ (i := 12) (N := some 35) (v := ?_) (a' := ?_) #[true, true, true, true, true, true, true, true, true, true, true, true, true, false, false, false] rfl rfl (by kernel_rfl) (fun _ _ _ h => h) (Or.inl ⟨by rfl, ?_⟩) ?_ ?_
            rotate_left
            · intro w'
              go_simp
              with_reducible rfl
            rotate_left
            · simp only [Act.put, List.setIfInBounds_toArray, List.set_cons_zero, List.set_cons_succ, i64_w, i32_w]
              rfl
            refine last_ (i := 13) (N := none) #[true, true, true, true, true, true, true, true, true, true, true, true, true, true, false, false] rfl rfl (by kernel_rfl) (by decide) (fun K hK => ?_)
            refine skip_ (w1 := ?_) (by rfl) rfl ?_ ?_
            rotate_left
            · go_simp
              rfl
            refine hK.out _ _ ?_
            clear hK K
            refine pure_ (i := 14) (N := some 36) (v := ?_) (a' := ?_) #[true, true, true, true, true, true, true, true, true, true, true, true, true, true, true, false] rfl rfl (by kernel_rfl) (fun _ _ _ h => h) (Or.inl ⟨by rfl, ?_⟩) ?_ ?_
            rotate_left
            · intro w'
              go_simp
              with_reducible rfl
            rotate_left
            · simp only [Act.put, List.setIfInBounds_toArray, List.set_cons_zero, List.set_cons_succ, i64_w, i32_w]
              rfl
            refine last_ (i := 15) (N := none) #[true, true, true, true, true, true, true, true, true, true, true, true, true, true, true, true] rfl rfl (by kernel_rfl) (by decide) (fun K hK => ?_)
            refine skip_ (w1 := ?_) (by rfl) rfl ?_ ?_
            rotate_left
            · go_simp
              rfl
            refine hK.out _ _ ?_
            clear hK K
            refine done_ (by kernel_rfl) ?_
            obtain ⟨w3, hw3⟩ : ∃ w3, ((w2.setCell ⟨g, at_.toNat, none⟩ (.slice Ai (rrd rs i).length ci)).setCell ⟨g, i.toNat, none⟩ (.slice Aa (rrd rs at_).length ca)).drew = w3 := ⟨_, rfl⟩
            rw [hw3]
            have HR3 : Aside0 (RowsN w3 g n cap (swp rs at_ i)) := ⟨by rw [← hw3]; exact HSW.out⟩
            have HB3 : Aside0 (Below B w0 w3) := ⟨by rw [← hw3]; exact HBS.out⟩
            have HP3 : Aside0 (Kd.R (Kd.int .i64) 3 w3 B (fun k => k ≠ g) _ piv) := ⟨by rw [← hw3]; exact HPS.out⟩
            clear hw3 HSW HBS HPS HR2 HB2 HP2 hcelli hfzi hcella hfza hy9
            go_wp2_with (first
              | (go_at_call 58; (with_reducible refine (solve_clear.calls k1 g n cap (swp rs at_ i) at_ col rc B w0 w3 HR3.out HB3.out HBg.out A1.out).mono ?_); rintro e w4 ⟨rfl, q1, q2, q3⟩; have HR4 := Aside0.mk q1; have HB4 := Aside0.mk q2; have HP4 := Aside0.mk (Kd.R_keep HP3.out q3 (fun _ h => h)); clear q1 q2 q3)
              | ((with_reducible refine gate_builtin (b := .append) (xs := #[.tmp 41, .tmp 43]) rfl ?_); at_builtin; refine Kd.R_append (Kd.int .i64) (w0 := w0) B rfl (.tmp 41) (.tmp 43) 25 3 (.int .i64 0) 8 rfl Tryd.underlying25 info3e rfl (by decide) (by omega) _ piv col [.int .i64 col] (fun k => k ≠ g) (fun _ => False) rfl rfl ?aP (fun _ hk => hk.elim) ?aF HP4.out HB4.out ?aS ?aL ?_; (case aP => exact rfl); (case aF => exact (fun k hk e => by have := HR4.out.lt; omega)); (case aS => exact Nat.le_trans HBg.out (Nat.le_of_lt HR4.out.lt)); (case aL => have := HPL.out; omega); intro v5 w5 ho hb hg hat; have HP5 := Aside0.mk ho; have HB5 := Aside0.mk hb; have HR5 := Aside0.mk (HR4.out.grown hg (fun b e => by obtain ⟨inner, hi⟩ := Kd.R_own HP4.out; obtain ⟨cc, hcc⟩ := own_typed hi b e; exact ⟨cc, 3, hcc, by decide, by decide⟩)); clear ho hb hg hat))
            go_roundg k1
            case measure => have := HK.out; omega
            case rel => exact ⟨_, piv ++ [col], at_ + 1, col + 1, rc, rfl, by first | rfl | simp [hw2], by first | rfl | simp [hw1], ⟨by omega, by omega, by omega⟩, H', ⟨by have := HK.out; omega⟩, HP5, HR5, HB5⟩
      · rw [if_neg hlt] at H
        obtain ⟨rfl, rfl⟩ : rs = r ∧ piv = p := by simpa using H
        clear H
        go_wp2
        try rw [Exit.noGoto_ret]
        go_ret
        exact ⟨_, rfl, HP.out, HR.out, HB.out⟩

end Go.Proofs.YtnnondbimdmcaaaDoor

namespace Go.Proofs.YtnnondbimdmcaaaDoor
open Go.RowKit Go.Proofs.YtnnondbimdmcaaaDoorW.PrintWords Go.Proofs.YtnnondbimdmcaaaDoorW.PrintLast Go.Proofs.YtnnondbimdmcaaaDoorW.PrintMore
attribute [local go_sem] max2_int min2_int max_two min_two max_three min_three max_four min_four   -- for this text's walks alone
set_option linter.unusedVariables false
set_option linter.unusedSimpArgs false
set_option linter.unusedSectionVars false
set_option linter.unusedSimpArgs false
set_option linter.unusedVariables false
variable [Errs]

theorem ginfo5 : (Tryd.prog.info? 5).map (fun i => (i.zero, i.size, i.bytes)) = some (some (.int .u8 0), 1, 1) := by kernel_rfl
/-! ### slices_Clone_byte_byte: function 44 -/
def slices_Clone_byte_byte.f (l0 : List Int) : Option (List Int) := (some (([] : List Int) : List Int)).bind fun y101 => (if y101.length + l0.length < 140737488355328 then (some (y101 ++ l0)) else (none))
set_option maxHeartbeats 8000000 in
set_option maxRecDepth 100000 in
theorem slices_Clone_byte_byte.calls_some (A0_ : Addr) (c0 : Nat) (l0 : List Int) (r : List Int) (w : World) (hr0 : Kd.C (Kd.int .u8) w (some A0_) l0.length l0) (hc0 : l0.length ≤ c0) (h : slices_Clone_byte_byte.f l0 = some r) :
    Calls Tryd.prog 44 #[.slice (some A0_) l0.length c0] w fun e w' => ∃ v0_ : Value, e = .returned (v0_) ∧ Kd.R (Kd.int .u8) 5 w' w.heap.size (fun _ => True) v0_ r ∧ Below w.heap.size w w' := by
  have hnil := fun (W : World) (a : Option Addr) (n c : Nat) => Lib.run_eql_slice_nil (P := Tryd.prog) W 39 5 a n c 0 0 Tryd.underlying39
  have HR0 := Aside0.mk hr0
  have HC0 := Aside0.mk hc0
  clear hr0 hc0
  have HB := Aside0.mk (Below.refl w.heap.size w)
  have H : ((some (([] : List Int) : List Int)).bind fun y101 => (if y101.length + l0.length < 140737488355328 then (some (y101 ++ l0)) else (none))) = some r := h
  clear h
  obtain ⟨y101, hy101⟩ : ∃ y_ : List Int, y_ = (([] : List Int)) := ⟨_, rfl⟩
  replace H : (if y101.length + l0.length < 140737488355328 then (some (y101 ++ l0)) else (none)) = some r := by first | (rw [hy101]; with_reducible exact H) | (have H2_ := (Option.bind_some _ _).symm.trans H; rw [hy101]; with_reducible exact H2_) | (have H2_ := (Option.bind_some _ _).symm.trans H; with_reducible exact H2_) | with_reducible exact H | (rw [hy101]; exact H) | exact H
  have Ny101 := Aside0.mk hy101
  clear hy101
  by_cases c2 : y101.length + l0.length < 140737488355328
  · rw [if_pos c2] at H
    have LMc2 := Aside0.mk c2
    clear c2
    obtain ⟨y104, hy104⟩ : ∃ y_ : List Int, y_ = (y101 ++ l0) := ⟨_, rfl⟩
    replace H : (some y104) = some r := by first | (rw [hy104]; with_reducible exact H) | (have H2_ := (Option.bind_some _ _).symm.trans H; rw [hy104]; with_reducible exact H2_) | (have H2_ := (Option.bind_some _ _).symm.trans H; with_reducible exact H2_) | with_reducible exact H | (rw [hy104]; exact H) | exact H
    have Ny104 := Aside0.mk hy104
    clear hy104
    obtain rfl := Option.some.inj H
    go_enter Tryd.func44, Tryd.ntmps44
    go_wp2_with (first | ((with_reducible refine gate_dst (N := 5) rfl ?_); refine Kd.R_lit (Kd.int .u8) _ 5 ?hg (N := 5) ?hd (xs := ([] : List Int)) (inner := []) (ok := fun _ => True) (okp := fun _ => True) ?hr ?hp (fun _ hk => hk) trivial (Below.refl _ _) (Nat.le_refl _) (by simp) ?_; (case hd => rfl); (case hg => rfl); (case hr => first | (go_simp; done) | (go_simp; rfl)); (case hp => exact (Reps.none _ _)); intro v102 w3 ho4 hb hg_ hnew_; clear hg_ hnew_; (first | rw [← Ny101.out] at ho4 | (simp only [Int.reduceToNat] at ho4; rw [← Ny101.out] at ho4)); have n0_ := Aside0.mk (Kd.R_lower ho4 (below_size (by repeat (first | (with_reducible first | exact HB.out | apply below_alloc | apply pw_below_drewN | apply below_drew1) | exact HB.out)))); have n1_ := Aside0.mk (below_step (by repeat (first | (with_reducible first | exact HB.out | apply below_alloc | apply pw_below_drewN | apply below_drew1) | exact HB.out)) hb); clear HB; have HO103 := n0_; have HB := n1_; clear n0_ n1_; clear hb ho4) | ((with_reducible refine gate_builtin (b := .append) (xs := #[.tmp 5, .tmp 6]) rfl ?_); at_builtin; refine Kd.R_append_rows (Kd.int .u8) (w0 := w) w.heap.size rfl (.tmp 5) (.tmp 6) 39 5 (.int .u8 0) 1 rfl Tryd.underlying39 ginfo5 rfl (by decide) (by omega) v102 y101 l0 _ _ _ (fun _ => True) (fun _ => False) rfl rfl ?aO ?aR (fun _ _ h => h) (fun _ h => h.elim) ?aF ?aB ?aS ?aL ?_; (case aR => repeat (first | exact (Kd.C_below HR0.out HB.out) | (with_reducible refine Kd.C_alloc ?_ _) | (with_reducible refine Kd.C_drewN ?_ _) | (with_reducible refine Kd.C_drew ?_))); (case aB => exact (by repeat (first | (with_reducible first | exact HB.out | apply below_alloc | apply pw_below_drewN | apply below_drew1) | exact HB.out))); (case aF => exact (fun _ _ => trivial)); (case aO => exact (by (with_reducible repeat (first | apply Kd.R_alloc | apply Kd.R_drewN | apply Kd.R_drew)); exact HO103.out)); (case aS => exact (below_size (by repeat (first | (with_reducible first | exact HB.out | apply below_alloc | apply pw_below_drewN | apply below_drew1) | exact HB.out)))); (case aL => have := LMc2.out; omega); intro v105 w5 ho hb hg hat; rw [← Ny104.out] at ho; have n0_ := Aside0.mk (hb); have n1_ := Aside0.mk (ho); clear HB; clear HO103; have HB := n0_; have HO106 := n1_; clear n0_ n1_; clear ho hb hg hat))
    go_ret
    exact ⟨_, by first | rfl | (simp [errW_none, errW_some] <;> rfl) | (simp [*, errW_none, errW_some] <;> rfl), by (with_reducible repeat (first | apply Kd.R_alloc | apply Kd.R_drewN | apply Kd.R_drew)); exact HO106.out, by repeat (first | (with_reducible first | exact HB.out | apply below_alloc | apply pw_below_drewN | apply below_drew1) | exact HB.out)⟩
  · rw [if_neg c2] at H
    exact absurd H (by simp)


theorem slices_Clone_byte_byte.calls (A0 : Option Addr) (c0 : Nat) (l0 : List Int) (r : List Int) (w : World) (hr0 : Kd.C (Kd.int .u8) w A0 l0.length l0) (hc0 : l0.length ≤ c0) (h : slices_Clone_byte_byte.f l0 = some r) :
    Calls Tryd.prog 44 #[.slice A0 l0.length c0] w fun e w' => ∃ v0_ : Value, e = .returned (v0_) ∧ Kd.R (Kd.int .u8) 5 w' w.heap.size (fun _ => True) v0_ r ∧ Below w.heap.size w w' := by
  cases A0 with
  | some ad => exact slices_Clone_byte_byte.calls_some ad c0 l0 r w hr0 hc0 h
  | none =>
    have hl : l0.length = 0 := by
      rcases Nat.eq_zero_or_pos l0.length with h0 | h0
      · exact h0
      · obtain ⟨ad, e, _⟩ := hr0.2.2 h0; cases e
    have hl0 : l0 = [] := List.eq_nil_of_length_eq_zero hl
    subst hl0
    obtain rfl : [] = r := Option.some.inj h
    clear h hr0 hc0 hl
    have hnil := fun (W : World) (a : Option Addr) (n c : Nat) => Lib.run_eql_slice_nil (P := Tryd.prog) W 39 5 a n c 0 0 Tryd.underlying39
    go_enter Tryd.func44, Tryd.ntmps44
    go_wp2
    go_ret
    exact ⟨_, rfl, Kd.R_nil _ _ _ _ _, Below.refl _ _⟩
end Go.Proofs.YtnnondbimdmcaaaDoor

namespace Go.Proofs.YtnnondbimdmcaaaDoor.F
open Go.RowKit Go.Proofs.YtnnondbimdmcaaaDoorW.PrintWords Go.Proofs.YtnnondbimdmcaaaDoorW.PrintLast Go.Proofs.YtnnondbimdmcaaaDoorW.PrintMore
attribute [local go_sem] max2_int min2_int max_two min_two max_three min_three max_four min_four   -- for this text's walks alone
set_option linter.unusedVariables false
set_option linter.unusedSimpArgs false
set_option linter.unusedSectionVars false
open Go.Proofs.YtnnondbimdmcaaaDoor
variable [Errs]

/-! ### mat_Check: function 43 -/
def mat_Check.L : List Int := [2]
def mat_Check.f (a0_0 : Int) (a0_1 : Int) (l0_2 : List Int) : Option (Option Int) := (mat_sized.f a0_0).bind fun t407 => (if t407 = true then ((mat_sized.f a0_1).bind fun t408 => (if t408 = true then (if (l0_2.length : Int) = (wrap64 (a0_0 * a0_1)) then (some none) else (some (some 2))) else (some (some 2)))) else (some (some 2)))
set_option maxHeartbeats 8000000 in
set_option maxRecDepth 100000 in
theorem mat_Check.calls (a0_0 : Int) (a0_1 : Int) (A0_2 : Option Addr) (c0_2 : Nat) (l0_2 : List Int) (r : Option Int) (w : World) (hr0_2 : Kd.C (Kd.int .u8) w A0_2 l0_2.length l0_2) (hc0_2 : l0_2.length ≤ c0_2) (h : mat_Check.f a0_0 a0_1 l0_2 = some r) (hS : Sent mat_Check.L w) :
    Calls Tryd.prog 43 #[.agg #[.int .i64 a0_0, .int .i64 a0_1, .slice A0_2 l0_2.length c0_2]] w fun e w' => e = .returned (errW r) ∧ Below w.heap.size w w' := by
  have hu43 := Tryd.underlying43
  have HR0_2 := Aside0.mk hr0_2
  have HC0_2 := Aside0.mk hc0_2
  clear hr0_2 hc0_2
  have HB := Aside0.mk (Below.refl w.heap.size w)
  have HS := Aside0.mk hS
  have hgl2 := Sent.cell hS 2 3 rfl (by decide)
  simp only [errW_some] at hgl2
  have hglw2 := Sent.cell0 hS 2 3 rfl (by decide)
  simp only [errW_some] at hglw2
  clear hS
  have H : ((mat_sized.f a0_0).bind fun t407 => (if t407 = true then ((mat_sized.f a0_1).bind fun t408 => (if t408 = true then (if (l0_2.length : Int) = (wrap64 (a0_0 * a0_1)) then (some none) else (some (some 2))) else (some (some 2)))) else (some (some 2)))) = some r := h
  clear h
  replace H := Option.bind_eq_some_iff.mp H
  obtain ⟨t407, A20, H⟩ := H
  replace H : (if t407 = true then ((mat_sized.f a0_1).bind fun t408 => (if t408 = true then (if (l0_2.length : Int) = (wrap64 (a0_0 * a0_1)) then (some none) else (some (some 2))) else (some (some 2)))) else (some (some 2))) = some r := H
  have A2 := Aside0.mk A20
  clear A20
  by_cases c3 : t407 = true
  · subst c3
    have H1 : ((mat_sized.f a0_1).bind fun t408 => (if t408 = true then (if (l0_2.length : Int) = (wrap64 (a0_0 * a0_1)) then (some none) else (some (some 2))) else (some (some 2)))) = some r := by rw [if_pos rfl] at H; exact H
    clear H
    have H := H1
    clear H1
    replace H := Option.bind_eq_some_iff.mp H
    obtain ⟨t408, A40, H⟩ := H
    replace H : (if t408 = true then (if (l0_2.length : Int) = (wrap64 (a0_0 * a0_1)) then (some none) else (some (some 2))) else (some (some 2))) = some r := H
    have A4 := Aside0.mk A40
    clear A40
    by_cases c5 : t408 = true
    · subst c5
      have H1 : (if (l0_2.length : Int) = (wrap64 (a0_0 * a0_1)) then (some none) else (some (some 2))) = some r := by rw [if_pos rfl] at H; exact H
      clear H
      have H := H1
      clear H1
      by_cases c6 : (l0_2.length : Int) = (wrap64 (a0_0 * a0_1))
      · rw [if_pos c6] at H
        have c6b0 : ((l0_2.length : Int) == (wrap64 (a0_0 * a0_1))) = true := beq_iff_eq.mpr c6
        have c6b1 : ((l0_2.length : Int) != (wrap64 (a0_0 * a0_1))) = false := bne_eq_false_iff_eq.mpr c6
        clear c6
        obtain rfl := Option.some.inj H
        go_enter Tryd.func43, Tryd.ntmps43
        go_wp2_with (first | ((with_reducible refine gate_dst (N := 1) rfl ?_); (try (refine gate_guard (by rfl) ?_; dsimp only)); refine box_event ?hg (N := 1) ?hd (cs := #[.int .i64 a0_0, .int .i64 a0_1, .slice A0_2 l0_2.length c0_2]) (t := 43) ?hr ?_; (case hd => rfl); (case hg => rfl); (case hr => first | (go_simp; done) | (go_simp; rfl)); intro gb406 hg w7 hbox hb; have n0_ := Aside0.mk (below_step (by repeat (first | (with_reducible first | exact HB.out | apply below_alloc | apply pw_below_drewN | apply below_drew1) | exact HB.out)) hb); have n1_ := Aside0.mk (hbox); have n2_ := Aside0.mk ((by rw [hg]; exact (below_size (by repeat (first | (with_reducible first | exact HB.out | apply below_alloc | apply pw_below_drewN | apply below_drew1) | exact HB.out))) : w.heap.size ≤ gb406)); have n3_ := Aside0.mk ((by rw [hg]; exact (below_size (by repeat (first | (with_reducible first | exact HB.out | apply below_alloc | apply pw_below_drewN | apply below_drew1) | exact HB.out))) : w.heap.size ≤ gb406)); clear HB; have HB := n0_; have BK406 := n1_; have GW406 := n2_; have GE406 := n3_; clear n0_ n1_ n2_ n3_; clear hb hbox hg; have hcz8_0 : w7.cell? ⟨gb406, 0, none⟩ = some (.int .i64 a0_0) := (blk_cell BK406.out 0).trans rfl; have hcz8_1 : w7.cell? ⟨gb406, 1, none⟩ = some (.int .i64 a0_1) := (blk_cell BK406.out 1).trans rfl; have hcz8_2 : w7.cell? ⟨gb406, 2, none⟩ = some (.slice A0_2 l0_2.length c0_2) := (blk_cell BK406.out 2).trans rfl; have hfz8_0 := blk_frozen BK406.out 0; have hfz8_1 := blk_frozen BK406.out 1; have hfz8_2 := blk_frozen BK406.out 2) | ((with_reducible refine gate_callee (f := 49) rfl ?_); refine goesL_ (some 5) rfl rfl Tryd.func49 (by kernel_rfl) rfl #[.int .i64 a0_0] rfl (by (try simp only [List.map_toArray, List.map_cons, List.map_nil]); first | done | rfl | (simp only [List.length_drop, List.length_take]; rfl)) ?_; (with_reducible refine (mat_sized.calls a0_0 true _ A2.out).mono ?_); rintro e w' ⟨rfl, ⟨nd, rfl⟩⟩; refine ⟨_, rfl, ?_⟩) | (go_at_call 49; (with_reducible refine (mat_sized.calls a0_1 true _ A4.out).mono ?_); rintro e w' ⟨rfl, ⟨nd, rfl⟩⟩))
        go_ret
        exact ⟨by first | rfl | (simp [errW_none, errW_some] <;> rfl) | (simp [*, errW_none, errW_some] <;> rfl), by repeat (first | (with_reducible first | exact HB.out | apply below_alloc | apply pw_below_drewN | apply below_drew1 | refine below_set ?_ GE406.out) | exact HB.out)⟩
      · rw [if_neg c6] at H
        have c6b0 : ((l0_2.length : Int) == (wrap64 (a0_0 * a0_1))) = false := beq_eq_false_iff_ne.mpr c6
        have c6b1 : ((l0_2.length : Int) != (wrap64 (a0_0 * a0_1))) = true := bne_iff_ne.mpr c6
        obtain rfl := Option.some.inj H
        go_enter Tryd.func43, Tryd.ntmps43
        go_wp2_with (first | ((with_reducible refine gate_dst (N := 1) rfl ?_); (try (refine gate_guard (by rfl) ?_; dsimp only)); refine box_event ?hg (N := 1) ?hd (cs := #[.int .i64 a0_0, .int .i64 a0_1, .slice A0_2 l0_2.length c0_2]) (t := 43) ?hr ?_; (case hd => rfl); (case hg => rfl); (case hr => first | (go_simp; done) | (go_simp; rfl)); intro gb406 hg w9 hbox hb; have n0_ := Aside0.mk (below_step (by repeat (first | (with_reducible first | exact HB.out | apply below_alloc | apply pw_below_drewN | apply below_drew1) | exact HB.out)) hb); have n1_ := Aside0.mk (hbox); have n2_ := Aside0.mk ((by rw [hg]; exact (below_size (by repeat (first | (with_reducible first | exact HB.out | apply below_alloc | apply pw_below_drewN | apply below_drew1) | exact HB.out))) : w.heap.size ≤ gb406)); have n3_ := Aside0.mk ((by rw [hg]; exact (below_size (by repeat (first | (with_reducible first | exact HB.out | apply below_alloc | apply pw_below_drewN | apply below_drew1) | exact HB.out))) : w.heap.size ≤ gb406)); clear HB; have HB := n0_; have BK406 := n1_; have GW406 := n2_; have GE406 := n3_; clear n0_ n1_ n2_ n3_; clear hb hbox hg; have hcz10_0 : w9.cell? ⟨gb406, 0, none⟩ = some (.int .i64 a0_0) := (blk_cell BK406.out 0).trans rfl; have hcz10_1 : w9.cell? ⟨gb406, 1, none⟩ = some (.int .i64 a0_1) := (blk_cell BK406.out 1).trans rfl; have hcz10_2 : w9.cell? ⟨gb406, 2, none⟩ = some (.slice A0_2 l0_2.length c0_2) := (blk_cell BK406.out 2).trans rfl; have hfz10_0 := blk_frozen BK406.out 0; have hfz10_1 := blk_frozen BK406.out 1; have hfz10_2 := blk_frozen BK406.out 2) | ((with_reducible refine gate_callee (f := 49) rfl ?_); refine goesL_ (some 5) rfl rfl Tryd.func49 (by kernel_rfl) rfl #[.int .i64 a0_0] rfl (by (try simp only [List.map_toArray, List.map_cons, List.map_nil]); first | done | rfl | (simp only [List.length_drop, List.length_take]; rfl)) ?_; (with_reducible refine (mat_sized.calls a0_0 true _ A2.out).mono ?_); rintro e w' ⟨rfl, ⟨nd, rfl⟩⟩; refine ⟨_, rfl, ?_⟩) | (go_at_call 49; (with_reducible refine (mat_sized.calls a0_1 true _ A4.out).mono ?_); rintro e w' ⟨rfl, ⟨nd, rfl⟩⟩))
        go_ret
        exact ⟨by first | rfl | (simp [errW_none, errW_some] <;> rfl) | (simp [*, errW_none, errW_some] <;> rfl), by repeat (first | (with_reducible first | exact HB.out | apply below_alloc | apply pw_below_drewN | apply below_drew1 | refine below_set ?_ GE406.out) | exact HB.out)⟩
    · replace c5 := Bool.eq_false_iff.mpr c5
      subst c5
      have H1 : (some (some 2)) = some r := by rw [if_neg (show ¬ (false = true) by decide)] at H; exact H
      clear H
      have H := H1
      clear H1
      obtain rfl := Option.some.inj H
      go_enter Tryd.func43, Tryd.ntmps43
      go_wp2_with (first | ((with_reducible refine gate_dst (N := 1) rfl ?_); (try (refine gate_guard (by rfl) ?_; dsimp only)); refine box_event ?hg (N := 1) ?hd (cs := #[.int .i64 a0_0, .int .i64 a0_1, .slice A0_2 l0_2.length c0_2]) (t := 43) ?hr ?_; (case hd => rfl); (case hg => rfl); (case hr => first | (go_simp; done) | (go_simp; rfl)); intro gb406 hg w11 hbox hb; have n0_ := Aside0.mk (below_step (by repeat (first | (with_reducible first | exact HB.out | apply below_alloc | apply pw_below_drewN | apply below_drew1) | exact HB.out)) hb); have n1_ := Aside0.mk (hbox); have n2_ := Aside0.mk ((by rw [hg]; exact (below_size (by repeat (first | (with_reducible first | exact HB.out | apply below_alloc | apply pw_below_drewN | apply below_drew1) | exact HB.out))) : w.heap.size ≤ gb406)); have n3_ := Aside0.mk ((by rw [hg]; exact (below_size (by repeat (first | (with_reducible first | exact HB.out | apply below_alloc | apply pw_below_drewN | apply below_drew1) | exact HB.out))) : w.heap.size ≤ gb406)); clear HB; have HB := n0_; have BK406 := n1_; have GW406 := n2_; have GE406 := n3_; clear n0_ n1_ n2_ n3_; clear hb hbox hg; have hcz12_0 : w11.cell? ⟨gb406, 0, none⟩ = some (.int .i64 a0_0) := (blk_cell BK406.out 0).trans rfl; have hcz12_1 : w11.cell? ⟨gb406, 1, none⟩ = some (.int .i64 a0_1) := (blk_cell BK406.out 1).trans rfl; have hcz12_2 : w11.cell? ⟨gb406, 2, none⟩ = some (.slice A0_2 l0_2.length c0_2) := (blk_cell BK406.out 2).trans rfl; have hfz12_0 := blk_frozen BK406.out 0; have hfz12_1 := blk_frozen BK406.out 1; have hfz12_2 := blk_frozen BK406.out 2) | ((with_reducible refine gate_callee (f := 49) rfl ?_); refine goesL_ (some 5) rfl rfl Tryd.func49 (by kernel_rfl) rfl #[.int .i64 a0_0] rfl (by (try simp only [List.map_toArray, List.map_cons, List.map_nil]); first | done | rfl | (simp only [List.length_drop, List.length_take]; rfl)) ?_; (with_reducible refine (mat_sized.calls a0_0 true _ A2.out).mono ?_); rintro e w' ⟨rfl, ⟨nd, rfl⟩⟩; refine ⟨_, rfl, ?_⟩) | (go_at_call 49; (with_reducible refine (mat_sized.calls a0_1 false _ A4.out).mono ?_); rintro e w' ⟨rfl, ⟨nd, rfl⟩⟩))
      go_ret
      exact ⟨by first | rfl | (simp [errW_none, errW_some] <;> rfl) | (simp [*, errW_none, errW_some] <;> rfl), by repeat (first | (with_reducible first | exact HB.out | apply below_alloc | apply pw_below_drewN | apply below_drew1 | refine below_set ?_ GE406.out) | exact HB.out)⟩
  · replace c3 := Bool.eq_false_iff.mpr c3
    subst c3
    have H1 : (some (some 2)) = some r := by rw [if_neg (show ¬ (false = true) by decide)] at H; exact H
    clear H
    have H := H1
    clear H1
    obtain rfl := Option.some.inj H
    go_enter Tryd.func43, Tryd.ntmps43
    go_wp2_with (first | ((with_reducible refine gate_dst (N := 1) rfl ?_); (try (refine gate_guard (by rfl) ?_; dsimp only)); refine box_event ?hg (N := 1) ?hd (cs := #[.int .i64 a0_0, .int .i64 a0_1, .slice A0_2 l0_2.length c0_2]) (t := 43) ?hr ?_; (case hd => rfl); (case hg => rfl); (case hr => first | (go_simp; done) | (go_simp; rfl)); intro gb406 hg w13 hbox hb; have n0_ := Aside0.mk (below_step (by repeat (first | (with_reducible first | exact HB.out | apply below_alloc | apply pw_below_drewN | apply below_drew1) | exact HB.out)) hb); have n1_ := Aside0.mk (hbox); have n2_ := Aside0.mk ((by rw [hg]; exact (below_size (by repeat (first | (with_reducible first | exact HB.out | apply below_alloc | apply pw_below_drewN | apply below_drew1) | exact HB.out))) : w.heap.size ≤ gb406)); have n3_ := Aside0.mk ((by rw [hg]; exact (below_size (by repeat (first | (with_reducible first | exact HB.out | apply below_alloc | apply pw_below_drewN | apply below_drew1) | exact HB.out))) : w.heap.size ≤ gb406)); clear HB; have HB := n0_; have BK406 := n1_; have GW406 := n2_; have GE406 := n3_; clear n0_ n1_ n2_ n3_; clear hb hbox hg; have hcz14_0 : w13.cell? ⟨gb406, 0, none⟩ = some (.int .i64 a0_0) := (blk_cell BK406.out 0).trans rfl; have hcz14_1 : w13.cell? ⟨gb406, 1, none⟩ = some (.int .i64 a0_1) := (blk_cell BK406.out 1).trans rfl; have hcz14_2 : w13.cell? ⟨gb406, 2, none⟩ = some (.slice A0_2 l0_2.length c0_2) := (blk_cell BK406.out 2).trans rfl; have hfz14_0 := blk_frozen BK406.out 0; have hfz14_1 := blk_frozen BK406.out 1; have hfz14_2 := blk_frozen BK406.out 2) | ((with_reducible refine gate_callee (f := 49) rfl ?_); refine goesL_ (some 5) rfl rfl Tryd.func49 (by kernel_rfl) rfl #[.int .i64 a0_0] rfl (by (try simp only [List.map_toArray, List.map_cons, List.map_nil]); first | done | rfl | (simp only [List.length_drop, List.length_take]; rfl)) ?_; (with_reducible refine (mat_sized.calls a0_0 false _ A2.out).mono ?_); rintro e w' ⟨rfl, ⟨nd, rfl⟩⟩; refine ⟨_, rfl, ?_⟩))
    go_ret
    exact ⟨by first | rfl | (simp [errW_none, errW_some] <;> rfl) | (simp [*, errW_none, errW_some] <;> rfl), by repeat (first | (with_reducible first | exact HB.out | apply below_alloc | apply pw_below_drewN | apply below_drew1 | refine below_set ?_ GE406.out) | exact HB.out)⟩

end Go.Proofs.YtnnondbimdmcaaaDoor.F

namespace Go.Proofs.YtnnondbimdmcaaaDoor
open Go.RowKit Go.Proofs.YtnnondbimdmcaaaDoorW.PrintWords Go.Proofs.YtnnondbimdmcaaaDoorW.PrintLast Go.Proofs.YtnnondbimdmcaaaDoorW.PrintMore
open Go.Proofs.YtnnondbimdmcaaaDoor.F
set_option linter.unusedVariables false
set_option linter.unusedSectionVars false
set_option linter.unusedSimpArgs false
set_option linter.unusedVariables false
variable [Errs]

/-- A cut of what reads as a list reads as the list's part. -/
theorem C_cut {k : IntKind} {w : World} {ad : Addr} {n : Nat} {xs : List Int} (h : (Kd.int k).C w (some ad) n xs) (p q : Nat) (hpq : p ≤ q) (hq : q ≤ n) :
    (Kd.int k).C w (some (ad.add p)) (q - p) ((xs.drop p).take (q - p)) := by
  obtain ⟨hl, hm, hc⟩ := h
  refine ⟨by rw [List.length_take, List.length_drop]; omega, by omega, fun hn => ?_⟩
  obtain ⟨ad', e, hx⟩ := hc (by omega)
  cases e
  refine ⟨_, rfl, fun j x hj => ?_⟩
  have hjl : j < q - p := by
    have := (List.getElem?_eq_some_iff.1 hj).1
    rw [List.length_take] at this
    omega
  have hj' : xs[p + j]? = some x := by
    rw [List.getElem?_take_of_lt hjl, List.getElem?_drop] at hj
    exact hj
  obtain ⟨c, hcs, hr, hcell⟩ := hx (p + j) x hj'
  refine ⟨c, hcs, hr, fun i u hu => ?_⟩
  have := hcell i u hu
  have e2 : (ad.add p).add (j * (Kd.int k).sz + i) = ad.add ((p + j) * (Kd.int k).sz + i) := by
    have hs : (Kd.int k).sz = 1 := rfl
    rw [hs, Addr.add_add]; congr 1; omega
  rw [e2]; exact this

theorem C_cut_nil {k : IntKind} {w : World} {A : Option Addr} : (Kd.int k).C w A 0 [] := ⟨rfl, by simp, fun h => absurd h (Nat.lt_irrefl 0)⟩

/-- What mat.line answers. -/
def LinePost (ad : Addr) (p q : Nat) (w : World) (e : Ending) (w' : World) : Prop :=
  (∃ A', e = .returned (.slice A' (q - p) (q - p)) ∧ (A' = some (ad.add p) ∨ q = p)) ∧ Below w.heap.size w w'
def LineNil (w : World) (e : Ending) (w' : World) : Prop := (∃ A' c', e = .returned (.slice A' 0 c')) ∧ Below w.heap.size w w'
/-- What a cut of a slice that came in is: its address, and that it reads as the part wherever the whole reads so. -/
def CutOf (k : IntKind) (A : Option Addr) (n : Nat) (xs : List Int) (p q : Nat) (A' : Option Addr) : Prop :=
  ∀ w : World, (Kd.int k).C w A n xs → (Kd.int k).C w A' (q - p) ((xs.drop p).take (q - p))

set_option maxHeartbeats 800000 in
set_option maxRecDepth 100000 in
theorem mat_line_some (m0 m1 : Int) (ad : Addr) (n c : Nat) (i p q : Int) (w : World) (hp : wrap64 (i * m1) = p) (hq : wrap64 (wrap64 (i + 1) * m1) = q) (h0 : 0 ≤ p) (h1 : p ≤ q) (h2 : q ≤ (c : Int)) :
    Calls Tryd.prog 45 #[.agg #[.int .i64 m0, .int .i64 m1, .slice (some ad) n c], .int .i64 i] w (LinePost ad p.toNat q.toNat w) := by
  have hu43 := Tryd.underlying43
  go_enter Tryd.func45, Tryd.ntmps45
  go_wp2
  · rename_i h
    go_ret
    exact ⟨⟨some ad, by rw [Nat.sub_self]; rfl, .inr rfl⟩, (Below.refl _ _).alloc (Nat.le_refl _) _⟩
  · go_ret
    exact ⟨⟨_, rfl, .inl rfl⟩, (Below.refl _ _).alloc (Nat.le_refl _) _⟩

set_option maxHeartbeats 800000 in
set_option maxRecDepth 100000 in
theorem mat_line_none (m0 m1 : Int) (n c : Nat) (i : Int) (w : World) (hp : wrap64 (i * m1) = 0) (hq : wrap64 (wrap64 (i + 1) * m1) = 0) :
    Calls Tryd.prog 45 #[.agg #[.int .i64 m0, .int .i64 m1, .slice none n c], .int .i64 i] w (LineNil w) := by
  have hu43 := Tryd.underlying43
  go_enter Tryd.func45, Tryd.ntmps45
  go_wp2
  go_ret
  exact ⟨⟨_, _, rfl⟩, (Below.refl _ _).alloc (Nat.le_refl _) _⟩

def mat_Row.L : List Int := [2, 12]
def mat_Row.f (m0 m1 : Int) (l : List Int) (a1 : Int) : Option (List Int × Option Int) :=
  (mat_Check.f m0 m1 l).bind fun t => if t.isNone = true then (if a1 < 0 then some ([], some 12) else if a1 ≥ m0 then some ([], some 12) else some ((l.drop (a1 * m1).toNat).take m1.toNat, none)) else some ([], some (t.getD 0))

omit [Errs] in
theorem mat_Check_none {m0 m1 : Int} {l : List Int} (h : mat_Check.f m0 m1 l = some none) : 0 ≤ m0 ∧ m0 ≤ 64 ∧ 0 ≤ m1 ∧ m1 ≤ 64 ∧ (l.length : Int) = m0 * m1 := by
  unfold mat_Check.f mat_sized.f at h
  by_cases h0 : m0 ≥ 0
  · by_cases h1 : m1 ≥ 0
    · by_cases h2 : m0 ≤ 64
      · by_cases h3 : m1 ≤ 64
        · simp [h0, h1, h2, h3] at h
          have b0 : 0 ≤ m0 * m1 := Int.mul_nonneg h0 h1
          have b1 : m0 * m1 ≤ 64 * 64 := Int.mul_le_mul h2 h3 h1 (by omega)
          have : wrap64 (m0 * m1) = m0 * m1 := by unfold wrap64; omega
          rw [this] at h
          exact ⟨h0, h2, h1, h3, h⟩
        · simp [h0, h1, h2, h3] at h
      · simp [h0, h2] at h
    · by_cases h2 : m0 ≤ 64 <;> simp [h0, h1, h2] at h
  · simp [h0] at h

/-- The call of mat.line within a matrix in form. -/
theorem mat_line_in {m0 m1 : Int} {A : Option Addr} {c : Nat} {l : List Int} {i : Int} {w : World} (hr : Kd.C (Kd.int .u8) w A l.length l) (hc : l.length ≤ c)
    (hf : 0 ≤ m0 ∧ m0 ≤ 64 ∧ 0 ≤ m1 ∧ m1 ≤ 64 ∧ (l.length : Int) = m0 * m1) (h0 : 0 ≤ i) (h1 : i < m0) :
    Calls Tryd.prog 45 #[.agg #[.int .i64 m0, .int .i64 m1, .slice A l.length c], .int .i64 i] w (fun e w' =>
      (∃ A' c', m1.toNat ≤ c' ∧ e = .returned (.slice A' m1.toNat c') ∧ CutOf .u8 A l.length l (i * m1).toNat ((i * m1).toNat + m1.toNat) A') ∧ Below w.heap.size w w') := by
  obtain ⟨a0, a1, a2, a3, a4⟩ := hf
  have b0 : 0 ≤ i * m1 := Int.mul_nonneg h0 a2
  have b1 : i * m1 ≤ 63 * 64 := Int.mul_le_mul (by omega) a3 a2 (by omega)
  have b2 : (i + 1) * m1 = i * m1 + m1 := by rw [Int.add_mul]; omega
  have b3 : (i + 1) * m1 ≤ m0 * m1 := Int.mul_le_mul_of_nonneg_right (by omega) a2
  have w1 : wrap64 (i + 1) = i + 1 := by unfold wrap64; omega
  have w2 : wrap64 (i * m1) = i * m1 := by unfold wrap64; omega
  have w3 : wrap64 (wrap64 (i + 1) * m1) = i * m1 + m1 := by rw [w1, b2]; unfold wrap64; omega
  cases A with
  | some ad =>
    refine (mat_line_some m0 m1 ad l.length c i (i * m1) (i * m1 + m1) w w2 w3 b0 (by omega) (by omega)).mono ?_
    rintro e w' ⟨⟨A', rfl, hA⟩, hb⟩
    have e1 : (i * m1 + m1).toNat = (i * m1).toNat + m1.toNat := by omega
    rw [e1, Nat.add_sub_cancel_left]
    refine ⟨⟨A', _, Nat.le_refl _, rfl, fun W hW => ?_⟩, hb⟩
    rcases hA with rfl | hz
    · exact C_cut hW _ _ (by omega) (by omega)
    · have hz' : m1.toNat = 0 := by omega
      rw [hz', Nat.add_zero, Nat.sub_self, List.take_zero]
      exact C_cut_nil
  | none =>
    have hl : l.length = 0 := by
      rcases Nat.eq_zero_or_pos l.length with h | h
      · exact h
      · obtain ⟨ad, e, _⟩ := hr.2.2 h; cases e
    have z1 : m1 = 0 := by
      rcases Int.lt_or_le 0 m1 with h | h
      · have : 0 < m0 * m1 := Int.mul_pos (by omega) h
        omega
      · omega
    subst z1
    refine (mat_line_none m0 0 l.length c i w (by rw [w2]; simp) (by rw [w3]; simp)).mono ?_
    rintro e w' ⟨⟨A', c', rfl⟩, hb⟩
    exact ⟨⟨A', c', by simp, rfl, fun W _ => by simpa using C_cut_nil⟩, hb⟩

def RowPost (w : World) (r1 : List Int) (r2 : Option Int) (e : Ending) (w' : World) : Prop :=
  ∃ v0_ : Value, e = .returned (.tuple #[v0_, errW r2]) ∧ Kd.R (Kd.int .u8) 5 w' w.heap.size (fun _ => True) v0_ r1 ∧ Below w.heap.size w w'

set_option maxHeartbeats 1600000 in
set_option maxRecDepth 100000 in
theorem mat_Row.calls (a0_0 : Int) (a0_1 : Int) (A0_2 : Option Addr) (c0_2 : Nat) (l0_2 : List Int) (a1 : Int) (r1 : List Int) (r2 : Option Int) (w : World) (hr0_2 : Kd.C (Kd.int .u8) w A0_2 l0_2.length l0_2) (hc0_2 : l0_2.length ≤ c0_2) (h : mat_Row.f a0_0 a0_1 l0_2 a1 = some (r1, r2)) (hS : Sent mat_Row.L w) :
    Calls Tryd.prog 28 #[.agg #[.int .i64 a0_0, .int .i64 a0_1, .slice A0_2 l0_2.length c0_2], .int .i64 a1] w (RowPost w r1 r2) := by
  have hu43 := Tryd.underlying43
  have hu27 := Tryd.underlying27
  have HR := Aside0.mk hr0_2
  have HC := Aside0.mk hc0_2
  have HS := Aside0.mk hS
  have hgl2 := Sent.cell hS 12 2 rfl (by decide)
  simp only [errW_some] at hgl2
  clear hr0_2 hc0_2 hS
  unfold mat_Row.f at h
  obtain ⟨t, hA, h⟩ := Option.bind_eq_some_iff.mp h
  have A1 := Aside0.mk hA
  clear hA
  cases t with
  | some c =>
    rw [if_neg (show ¬ (some c).isNone = true by simp)] at h
    obtain ⟨rfl, rfl⟩ : ([] : List Int) = r1 ∧ some c = r2 := by simpa using h
    clear h
    go_enter Tryd.func28, Tryd.ntmps28
    go_wp2_with (go_at_call 43; refine (mat_Check.calls a0_0 a0_1 _ _ l0_2 (some c) _ (Kd.C_alloc HR.out _) HC.out A1.out (Sent.sub (show ∀ c, c ∈ mat_Check.L → c ∈ mat_Row.L by decide) (HS.out.below ((Below.refl _ _).alloc (Nat.le_refl _) _)))).mono ?_; rintro e w1 ⟨rfl, hb⟩; have HB := Aside0.mk (below_step (below_alloc (Below.refl _ _) _) hb); clear hb; simp only [errW_some])
    go_ret2
    exact ⟨_, rfl, Kd.R_nil _ _ _ _ _, HB.out⟩
  | none =>
    rw [if_pos (show (none : Option Int).isNone = true by rfl)] at h
    have hf := Aside0.mk (mat_Check_none A1.out)
    by_cases h0 : a1 < 0
    · rw [if_pos h0] at h
      obtain ⟨rfl, rfl⟩ : ([] : List Int) = r1 ∧ some 12 = r2 := by simpa using h
      clear h
      go_enter Tryd.func28, Tryd.ntmps28
      go_wp2_with (go_at_call 43; refine (mat_Check.calls a0_0 a0_1 _ _ l0_2 none _ (Kd.C_alloc HR.out _) HC.out A1.out (Sent.sub (show ∀ c, c ∈ mat_Check.L → c ∈ mat_Row.L by decide) (HS.out.below ((Below.refl _ _).alloc (Nat.le_refl _) _)))).mono ?_; rintro e w1 ⟨rfl, hb⟩; have hblk := (hb.block w.heap.size (by simp)).trans (heap_alloc_new w _); have hc0 : w1.cell? ⟨w.heap.size, 0, none⟩ = some (.int .i64 a0_0) := (blk_cell hblk 0).trans rfl; have hc1 : w1.cell? ⟨w.heap.size, 1, none⟩ = some (.int .i64 a0_1) := (blk_cell hblk 1).trans rfl; have hc2 : w1.cell? ⟨w.heap.size, 2, none⟩ = some (.slice A0_2 l0_2.length c0_2) := (blk_cell hblk 2).trans rfl; clear hblk; have HB := Aside0.mk (below_step (below_alloc (Below.refl _ _) _) hb); have HB1 := Aside0.mk hb; clear hb; simp only [errW_none])
      go_quiet (fail)
      go_wp2
      go_ret2
      exact ⟨_, rfl, Kd.R_nil _ _ _ _ _, by repeat (first | exact HB.out | apply pw_below_drewN | apply below_drew1)⟩
    by_cases h1 : a1 ≥ a0_0
    · rw [if_neg h0, if_pos h1] at h
      obtain ⟨rfl, rfl⟩ : ([] : List Int) = r1 ∧ some 12 = r2 := by simpa using h
      clear h
      go_enter Tryd.func28, Tryd.ntmps28
      go_wp2_with (go_at_call 43; refine (mat_Check.calls a0_0 a0_1 _ _ l0_2 none _ (Kd.C_alloc HR.out _) HC.out A1.out (Sent.sub (show ∀ c, c ∈ mat_Check.L → c ∈ mat_Row.L by decide) (HS.out.below ((Below.refl _ _).alloc (Nat.le_refl _) _)))).mono ?_; rintro e w1 ⟨rfl, hb⟩; have hblk := (hb.block w.heap.size (by simp)).trans (heap_alloc_new w _); have hc0 : w1.cell? ⟨w.heap.size, 0, none⟩ = some (.int .i64 a0_0) := (blk_cell hblk 0).trans rfl; have hc1 : w1.cell? ⟨w.heap.size, 1, none⟩ = some (.int .i64 a0_1) := (blk_cell hblk 1).trans rfl; have hc2 : w1.cell? ⟨w.heap.size, 2, none⟩ = some (.slice A0_2 l0_2.length c0_2) := (blk_cell hblk 2).trans rfl; clear hblk; have HB := Aside0.mk (below_step (below_alloc (Below.refl _ _) _) hb); have HB1 := Aside0.mk hb; clear hb; simp only [errW_none])
      go_quiet (fail)
      go_wp2
      go_ret2
      exact ⟨_, rfl, Kd.R_nil _ _ _ _ _, by repeat (first | exact HB.out | apply pw_below_drewN | apply below_drew1)⟩
    · rw [if_neg h0, if_neg h1] at h
      obtain ⟨hr1, rfl⟩ : (l0_2.drop (a1 * a0_1).toNat).take a0_1.toNat = r1 ∧ none = r2 := by simpa using h
      clear h
      have hlen : r1.length = a0_1.toNat := by
        obtain ⟨b0, b1, b2, b3, b4⟩ := hf.out
        have c0 : 0 ≤ a1 * a0_1 := Int.mul_nonneg (by omega) b2
        have c1 : (a1 + 1) * a0_1 ≤ a0_0 * a0_1 := Int.mul_le_mul_of_nonneg_right (by omega) b2
        have c2 : (a1 + 1) * a0_1 = a1 * a0_1 + a0_1 := by rw [Int.add_mul]; omega
        rw [← hr1, List.length_take, List.length_drop]
        omega
      have hlt : ([] : List Int).length + r1.length < 140737488355328 := by have := hf.out; simp; omega
      have HLt := Aside0.mk hlt
      have Hl := Aside0.mk hlen
      have Hr1 := Aside0.mk hr1
      have h0' := Aside0.mk (show 0 ≤ a1 by omega)
      have h1' := Aside0.mk (show a1 < a0_0 by omega)
      clear hlen hr1 hlt
      go_enter Tryd.func28, Tryd.ntmps28
      go_wp2_with (first
        | (go_at_call 43; refine (mat_Check.calls a0_0 a0_1 _ _ l0_2 none _ (Kd.C_alloc HR.out _) HC.out A1.out (Sent.sub (show ∀ c, c ∈ mat_Check.L → c ∈ mat_Row.L by decide) (HS.out.below ((Below.refl _ _).alloc (Nat.le_refl _) _)))).mono ?_; rintro e w1 ⟨rfl, hb⟩; have hblk := (hb.block w.heap.size (by simp)).trans (heap_alloc_new w _); have hc0 : w1.cell? ⟨w.heap.size, 0, none⟩ = some (.int .i64 a0_0) := (blk_cell hblk 0).trans rfl; have hc1 : w1.cell? ⟨w.heap.size, 1, none⟩ = some (.int .i64 a0_1) := (blk_cell hblk 1).trans rfl; have hc2 : w1.cell? ⟨w.heap.size, 2, none⟩ = some (.slice A0_2 l0_2.length c0_2) := (blk_cell hblk 2).trans rfl; clear hblk; have HB := Aside0.mk (below_step (below_alloc (Below.refl _ _) _) hb); clear hb; simp only [errW_none])
        | (go_at_call 45; refine (mat_line_in (Kd.C_below HR.out HB.out) HC.out hf.out h0'.out h1'.out).mono ?_; rintro e w2 ⟨⟨A', c', hle, rfl, hcut⟩, hb⟩; have HB2 := Aside0.mk (below_step HB.out hb); have HCut := Aside0.mk hcut; have Hle := Aside0.mk hle; clear hb hcut hle)
        | (go_at_call 44; rw [← Hl.out]; refine (slices_Clone_byte_byte.calls A' c' r1 r1 w2 (by have := HCut.out _ (Kd.C_below HR.out HB2.out); rw [Nat.add_sub_cancel_left, Hr1.out] at this; rw [Hl.out]; exact this) (by rw [Hl.out]; exact Hle.out) (by unfold slices_Clone_byte_byte.f; rw [Option.bind_some, if_pos HLt.out, List.nil_append])).mono ?_; rintro e w3 ⟨v, rfl, ho, hb⟩; have HB3 := Aside0.mk (below_step HB2.out hb); have HO := Aside0.mk (Kd.R_lower ho (below_size HB2.out)); clear hb ho))
      go_ret2
      exact ⟨_, rfl, HO.out, HB3.out⟩

end Go.Proofs.YtnnondbimdmcaaaDoor

namespace Go.Proofs.YtnnondbimdmcaaaDoor.F
open Go.RowKit Go.Proofs.YtnnondbimdmcaaaDoorW.PrintWords Go.Proofs.YtnnondbimdmcaaaDoorW.PrintLast Go.Proofs.YtnnondbimdmcaaaDoorW.PrintMore
attribute [local go_sem] max2_int min2_int max_two min_two max_three min_three max_four min_four   -- for this text's walks alone
set_option linter.unusedVariables false
set_option linter.unusedSimpArgs false
set_option linter.unusedSectionVars false
open Go.Proofs.YtnnondbimdmcaaaDoor
variable [Errs]

/-! ### solve_rowsOf: function 52 -/
def solve_rowsOf.L : List Int := [2, 12]
def solve_rowsOf.l0 : Nat → List (List Int) → Int → Int → Int → Int → List Int → Option ((List (List Int)))
  | 0, _, _, _, _, _, _ => none
  | k + 1, x3, x8, x9, x417000, x417001, x417002 => if x9 < x8 then ((mat_Row.f x417000 x417001 x417002 x9).bind fun bt417 => (if bt417.2.isNone = true then (if x3.length < 5864062014805 then (solve_rowsOf.l0 k (x3 ++ [bt417.1]) x8 (wrap64 (x9 + 1)) x417000 x417001 x417002) else (none)) else (some ([] : List (List Int))))) else (some x3)
def solve_rowsOf.f (k : Nat) (a0_0 : Int) (a0_1 : Int) (l0_2 : List Int) : Option ((List (List Int))) := solve_rowsOf.l0 k ([] : List (List Int)) a0_0 0 a0_0 a0_1 l0_2
theorem solve_rowsOf.mono_l : ∀ k, (∀ y0 y1 y2 y3 y4 y5, LeO (solve_rowsOf.l0 k y0 y1 y2 y3 y4 y5) (solve_rowsOf.l0 (k + 1) y0 y1 y2 y3 y4 y5))
  | 0 => fun _ _ _ _ _ _ r h => by simp [solve_rowsOf.l0] at h
  | k + 1 => by
    have ih0 := solve_rowsOf.mono_l k
    · intro y0 y1 y2 y3 y4 y5
      unfold solve_rowsOf.l0
      repeat' first
      | (with_reducible exact ih0 _ _ _ _ _ _)
      | (with_reducible exact LeO.refl _)
      | (with_reducible exact LeO.none _)
      | (with_reducible refine LeO.ite ?_ ?_)
      | (with_reducible refine LeO.bind ?_ (fun _ => ?_))
      | exact ih0 _ _ _ _ _ _
      | exact LeO.none _
      | refine LeO.ite ?_ ?_
      | refine LeO.bind ?_ (fun _ => ?_)
theorem solve_rowsOf.mono : ∀ a0 a1 a2 k, LeO (solve_rowsOf.f k a0 a1 a2) (solve_rowsOf.f (k + 1) a0 a1 a2) := by
  intro a0 a1 a2 k
  have ih0 := solve_rowsOf.mono_l k
  unfold solve_rowsOf.f
  repeat' first
      | (with_reducible exact ih0 _ _ _ _ _ _)
      | (with_reducible exact LeO.refl _)
      | (with_reducible exact LeO.none _)
      | (with_reducible refine LeO.ite ?_ ?_)
      | (with_reducible refine LeO.bind ?_ (fun _ => ?_))
      | exact ih0 _ _ _ _ _ _
      | exact LeO.none _
      | refine LeO.ite ?_ ?_
      | refine LeO.bind ?_ (fun _ => ?_)
set_option maxHeartbeats 8000000 in
set_option maxRecDepth 100000 in
theorem solve_rowsOf.calls (k : Nat) (a0_0 : Int) (a0_1 : Int) (A0_2 : Option Addr) (c0_2 : Nat) (l0_2 : List Int) (r : List (List Int)) (w : World) (hr0_2 : Kd.C (Kd.int .u8) w A0_2 l0_2.length l0_2) (hc0_2 : l0_2.length ≤ c0_2) (h : solve_rowsOf.f k a0_0 a0_1 l0_2 = some r) (hS : Sent solve_rowsOf.L w) :
    Calls Tryd.prog 52 #[.agg #[.int .i64 a0_0, .int .i64 a0_1, .slice A0_2 l0_2.length c0_2]] w fun e w' => ∃ v0_ : Value, e = .returned (v0_) ∧ Kd.S (Kd.slice 5 (Kd.int .u8)) 39 w' w.heap.size (fun _ => True) v0_ r ∧ Below w.heap.size w w' := by
  have hu43 := Tryd.underlying43
  have hu27 := Tryd.underlying27
  have HR0_2 := Aside0.mk hr0_2
  have HC0_2 := Aside0.mk hc0_2
  clear hr0_2 hc0_2
  have HB := Aside0.mk (Below.refl w.heap.size w)
  have HS := Aside0.mk hS
  clear hS
  have H : (solve_rowsOf.l0 k ([] : List (List Int)) a0_0 0 a0_0 a0_1 l0_2) = some r := h
  clear h
  have H' := Aside0.mk H
  clear H
  go_enter Tryd.func52, Tryd.ntmps52
  go_wp2_with (first | ((with_reducible refine gate_dst (N := 1) rfl ?_); refine box_event ?hg (N := 1) ?hd (cs := #[.int .i64 a0_0, .int .i64 a0_1, .slice A0_2 l0_2.length c0_2]) (t := 43) ?hr ?_; (case hd => rfl); (case hg => rfl); (case hr => first | (go_simp; done) | (go_simp; rfl)); intro gb416 hg w2 hbox hb; have n0_ := Aside0.mk (below_step (by repeat (first | (with_reducible first | exact HB.out | apply below_alloc | apply pw_below_drewN | apply below_drew1) | exact HB.out)) hb); have n1_ := Aside0.mk (hbox); have n2_ := Aside0.mk ((by rw [hg]; exact (below_size (by repeat (first | (with_reducible first | exact HB.out | apply below_alloc | apply pw_below_drewN | apply below_drew1) | exact HB.out))) : w.heap.size ≤ gb416)); have n3_ := Aside0.mk ((by rw [hg]; exact (below_size (by repeat (first | (with_reducible first | exact HB.out | apply below_alloc | apply pw_below_drewN | apply below_drew1) | exact HB.out))) : w.heap.size ≤ gb416)); clear HB; have HB := n0_; have BK416 := n1_; have GW416 := n2_; have GE416 := n3_; clear n0_ n1_ n2_ n3_; clear hb hbox hg; have hcz3_0 : w2.cell? ⟨gb416, 0, none⟩ = some (.int .i64 a0_0) := (blk_cell BK416.out 0).trans rfl; have hcz3_1 : w2.cell? ⟨gb416, 1, none⟩ = some (.int .i64 a0_1) := (blk_cell BK416.out 1).trans rfl; have hcz3_2 : w2.cell? ⟨gb416, 2, none⟩ = some (.slice A0_2 l0_2.length c0_2) := (blk_cell BK416.out 2).trans rfl; have hfz3_0 := blk_frozen BK416.out 0; have hfz3_1 := blk_frozen BK416.out 1; have hfz3_2 := blk_frozen BK416.out 2))
  go_loopg [3, 9] k (fun kq v3 v9 w' => ∃ (x3_1 : List (List Int)) (x9_1 : Int), v9 = .int .i64 x9_1 ∧ Aside0 (solve_rowsOf.l0 kq x3_1 a0_0 x9_1 a0_0 a0_1 l0_2 = some r) ∧ Aside0 (kq ≤ k) ∧ Aside0 (Kd.S (Kd.slice 5 (Kd.int .u8)) 39 w' w.heap.size (fun _ => True) v3 x3_1) ∧ Aside0 (w'.heap[gb416]? = some (.cells #[.int .i64 a0_0, .int .i64 a0_1, (.slice A0_2 l0_2.length c0_2)] 43 (0, 0))) ∧ Aside0 (Below w.heap.size w w'))
  case atStart => exact ⟨(([] : List (List Int))), (0), (by first | rfl | (simp; done) | (simp [*]; done)), H', ⟨Nat.le_refl _⟩, ⟨by first | exact Kd.S_nil _ _ _ _ _ | exact Kd.N_nil _ _ _ _ _ | exact Kd.V_nil _ _ _ _ _ | exact Kd.Q_nil _ _ _ _ _ | exact Kd.R_nil _ _ _ _ _⟩, ⟨by (with_reducible repeat (first | refine blk_drewN ?_ _ | refine blk_drew ?_ | refine blk_alloc ?_ _)); exact BK416.out⟩, ⟨by repeat (first | (with_reducible first | exact HB.out | apply below_alloc | apply pw_below_drewN | apply below_drew1 | refine below_set ?_ GE416.out) | exact HB.out)⟩⟩
  case round =>
    clear H'
    try clear p2
    try clear hcz3_0
    try clear hcz3_1
    try clear hcz3_2
    try clear hfz3_0
    try clear hfz3_1
    try clear hfz3_2
    obtain ⟨x3_1, x9_1, rfl, HA, HK1, HO_3, BK416, HB⟩ := hrel
    cases gk with
    | zero => exact absurd HA.out (by simp [solve_rowsOf.l0])
    | succ k1 =>
      have H := HA.out
      clear HA
      first | rw [solve_rowsOf.l0] at H | simp only [solve_rowsOf.l0] at H
      by_cases c4 : x9_1 < a0_0
      · rw [if_pos c4] at H
        have c4b0 : decide (x9_1 < a0_0) = true := decide_eq_true c4
        clear c4
        replace H := Option.bind_eq_some_iff.mp H
        obtain ⟨⟨t417, t420⟩, A50, H⟩ := H
        replace H : (if t420.isNone = true then (if x3_1.length < 5864062014805 then (solve_rowsOf.l0 k1 (x3_1 ++ [t417]) a0_0 (wrap64 (x9_1 + 1)) a0_0 a0_1 l0_2) else (none)) else (some ([] : List (List Int)))) = some r := H
        have A5 := Aside0.mk A50
        clear A50
        rcases t420 with _ | q421
        · have H1 : (if x3_1.length < 5864062014805 then (solve_rowsOf.l0 k1 (x3_1 ++ [t417]) a0_0 (wrap64 (x9_1 + 1)) a0_0 a0_1 l0_2) else (none)) = some r := by rw [if_pos (show (none : Option Int).isNone = true by rfl)] at H; exact H
          clear H
          have H := H1
          clear H1
          try simp only [errW_none, errW_some]
          by_cases c6 : x3_1.length < 5864062014805
          · rw [if_pos c6] at H
            have LMc6 := Aside0.mk c6
            clear c6
            obtain ⟨y422, hy422⟩ : ∃ y_ : List (List Int), y_ = (x3_1 ++ [t417]) := ⟨_, rfl⟩
            replace H : (solve_rowsOf.l0 k1 y422 a0_0 (wrap64 (x9_1 + 1)) a0_0 a0_1 l0_2) = some r := by first | (rw [hy422]; with_reducible exact H) | (have H2_ := (Option.bind_some _ _).symm.trans H; rw [hy422]; with_reducible exact H2_) | (have H2_ := (Option.bind_some _ _).symm.trans H; with_reducible exact H2_) | with_reducible exact H | (rw [hy422]; exact H) | exact H
            have Ny422 := Aside0.mk hy422
            clear hy422
            have H' := Aside0.mk H
            clear H
            have hcz7_0 : wr.cell? ⟨gb416, 0, none⟩ = some (.int .i64 a0_0) := (blk_cell BK416.out 0).trans rfl
            have hcz7_1 : wr.cell? ⟨gb416, 1, none⟩ = some (.int .i64 a0_1) := (blk_cell BK416.out 1).trans rfl
            have hcz7_2 : wr.cell? ⟨gb416, 2, none⟩ = some (.slice A0_2 l0_2.length c0_2) := (blk_cell BK416.out 2).trans rfl
            have hfz7_0 := blk_frozen BK416.out 0
            have hfz7_1 := blk_frozen BK416.out 1
            have hfz7_2 := blk_frozen BK416.out 2
            go_wp2_with (first | ((with_reducible refine gate_callee (f := 28) rfl ?_); refine goesL_ (some 15) rfl rfl Tryd.func28 (by kernel_rfl) rfl #[.agg #[.int .i64 a0_0, .int .i64 a0_1, .slice A0_2 l0_2.length c0_2], .int .i64 x9_1] rfl (by (try simp only [List.map_toArray, List.map_cons, List.map_nil]); first | done | rfl | (simp only [List.length_drop, List.length_take]; rfl)) ?_; (with_reducible refine (mat_Row.calls a0_0 a0_1 _ _ l0_2 x9_1 t417 none _ ?side1 ?side2 A5.out (Sent.sub (show ∀ c, c ∈ mat_Row.L → c ∈ solve_rowsOf.L by decide) (Sent.below HS.out (by repeat (first | (with_reducible first | exact HB.out | apply below_alloc | apply pw_below_drewN | apply below_drew1 | refine below_set ?_ GE416.out) | exact HB.out))))).mono ?_); (case side1 => repeat (first | exact (Kd.C_below HR0_2.out HB.out) | (with_reducible refine Kd.C_alloc ?_ _) | (with_reducible refine Kd.C_drewN ?_ _) | (with_reducible refine Kd.C_drew ?_))); (case side2 => exact HC0_2.out); rintro e w8 ⟨v418, rfl, ho0, hb⟩; refine ⟨_, rfl, ?_⟩; have n0_ := Aside0.mk (Kd.S_elder' (by (with_reducible repeat (first | apply Kd.S_alloc | apply Kd.S_drewN | apply Kd.S_drew)); exact HO_3.out) (Kd.R_base ho0) hb); have n1_ := Aside0.mk (Kd.R_lower ho0 (below_size (by repeat (first | (with_reducible first | exact HB.out | apply below_alloc | apply pw_below_drewN | apply below_drew1 | refine below_set ?_ GE416.out) | exact HB.out)))); have n2_ := Aside0.mk (blk_below (g := gb416) (o := .cells #[.int .i64 a0_0, .int .i64 a0_1, .slice A0_2 l0_2.length c0_2] 43 (0, 0)) (by (with_reducible repeat (first | refine blk_drewN ?_ _ | refine blk_drew ?_ | refine blk_alloc ?_ _)); exact BK416.out) hb); have n3_ := Aside0.mk (below_step (by repeat (first | (with_reducible first | exact HB.out | apply below_alloc | apply pw_below_drewN | apply below_drew1 | refine below_set ?_ GE416.out) | exact HB.out)) hb); clear HO_3; clear BK416; clear HB; have HO_3 := n0_; have HO419 := n1_; have BK416 := n2_; have HB := n3_; clear n0_ n1_ n2_ n3_; (try clear hb); (try clear hb2); (try clear hk); (try clear hi); (try clear ho0); (try simp only [errW_none, errW_some]); obtain ⟨Ao10, co10, eo10⟩ := Kd.R_slice HO419.out; subst eo10) | ((with_reducible refine gate_builtin (b := .append) (xs := #[.tmp 20, .tmp 22]) rfl ?_); at_builtin; refine Kd.S_append (Kd.slice 5 (Kd.int .u8)) (w0 := w) w.heap.size rfl (.tmp 20) (.tmp 22) 73 39 (.slice none 0 0) 24 rfl Tryd.underlying73 info39 rfl (by decide) (by omega) u3 x3_1 t417 [.slice Ao10 t417.length co10] (fun _ => True) (fun k_ => some k_ = (.slice Ao10 t417.length co10 : Value).ownBlock) rfl rfl ?aP (fun k_ hk_ => ((Kd.R_mono (ok' := fun k_ => ((fun _ => True)) k_ ∧ some k_ ≠ (u3 : Value).ownBlock) (Kd.R_apart' (HO419.out) (Kd.S_typed HO_3.out) (by decide)) (fun k_ hk => ⟨trivial, hk.2⟩))).1 k_ hk_.symm) ?aF ?aO ?aB ?aS ?aL ?_; (case aP => exact Kd.M_row (Kd.R_mono (Kd.R_tight rfl (Kd.R_mono (ok' := fun k_ => ((fun _ => True)) k_ ∧ some k_ ≠ (u3 : Value).ownBlock) (Kd.R_apart' (HO419.out) (Kd.S_typed HO_3.out) (by decide)) (fun k_ hk => ⟨trivial, hk.2⟩))) (fun _ h_ => h_))); (case aB => exact (by repeat (first | (with_reducible first | exact HB.out | apply below_alloc | apply pw_below_drewN | apply below_drew1 | refine below_set ?_ GE416.out) | exact HB.out))); (case aF => exact (fun _ _ => trivial)); (case aO => exact (by (with_reducible repeat (first | apply Kd.S_alloc | apply Kd.S_drewN | apply Kd.S_drew)); exact Kd.S_mono HO_3.out (fun k_ hk => ⟨trivial, fun e_ => hk.2 e_⟩))); (case aS => exact (below_size (by repeat (first | (with_reducible first | exact HB.out | apply below_alloc | apply pw_below_drewN | apply below_drew1 | refine below_set ?_ GE416.out) | exact HB.out)))); (case aL => have := LMc6.out; omega); intro v423 w9 ho hb hg hat; rw [← Ny422.out] at ho; have n0_ := Aside0.mk (blk_grown (g := gb416) (o := .cells #[.int .i64 a0_0, .int .i64 a0_1, .slice A0_2 l0_2.length c0_2] 43 (0, 0)) (by (with_reducible repeat (first | refine blk_drewN ?_ _ | refine blk_drew ?_ | refine blk_alloc ?_ _)); exact BK416.out) hg (Kd.S_ne HO_3.out BK416.out (by decide))); have n1_ := Aside0.mk (hb); have n2_ := Aside0.mk (ho); clear BK416; clear HB; clear HO_3; clear HO419; have BK416 := n0_; have HB := n1_; have HO424 := n2_; clear n0_ n1_ n2_; clear ho hb hg hat))
            go_roundg k1
            case measure => have := HK1.out; omega
            case rel => exact ⟨(y422), (wrap64 (x9_1 + 1)), (by first | rfl | (simp; done) | (simp [*]; done)), H', ⟨by have := HK1.out; omega⟩, ⟨by (with_reducible repeat (first | apply Kd.S_alloc | apply Kd.S_drewN | apply Kd.S_drew)); exact HO424.out⟩, ⟨by (with_reducible repeat (first | refine blk_drewN ?_ _ | refine blk_drew ?_ | refine blk_alloc ?_ _)); exact BK416.out⟩, ⟨by repeat (first | (with_reducible first | exact HB.out | apply below_alloc | apply pw_below_drewN | apply below_drew1 | refine below_set ?_ GE416.out) | exact HB.out)⟩⟩
          · rw [if_neg c6] at H
            exact absurd H (by simp)
        · have H1 : (some ([] : List (List Int))) = some r := by rw [if_neg (show ¬ (some q421).isNone = true by simp)] at H; exact H
          clear H
          have H := H1
          clear H1
          try simp only [errW_none, errW_some]
          obtain rfl := Option.some.inj H
          have hcz11_0 : wr.cell? ⟨gb416, 0, none⟩ = some (.int .i64 a0_0) := (blk_cell BK416.out 0).trans rfl
          have hcz11_1 : wr.cell? ⟨gb416, 1, none⟩ = some (.int .i64 a0_1) := (blk_cell BK416.out 1).trans rfl
          have hcz11_2 : wr.cell? ⟨gb416, 2, none⟩ = some (.slice A0_2 l0_2.length c0_2) := (blk_cell BK416.out 2).trans rfl
          have hfz11_0 := blk_frozen BK416.out 0
          have hfz11_1 := blk_frozen BK416.out 1
          have hfz11_2 := blk_frozen BK416.out 2
          go_wp2_with (first | ((with_reducible refine gate_callee (f := 28) rfl ?_); refine goesL_ (some 15) rfl rfl Tryd.func28 (by kernel_rfl) rfl #[.agg #[.int .i64 a0_0, .int .i64 a0_1, .slice A0_2 l0_2.length c0_2], .int .i64 x9_1] rfl (by (try simp only [List.map_toArray, List.map_cons, List.map_nil]); first | done | rfl | (simp only [List.length_drop, List.length_take]; rfl)) ?_; (with_reducible refine (mat_Row.calls a0_0 a0_1 _ _ l0_2 x9_1 t417 (some q421) _ ?side1 ?side2 A5.out (Sent.sub (show ∀ c, c ∈ mat_Row.L → c ∈ solve_rowsOf.L by decide) (Sent.below HS.out (by repeat (first | (with_reducible first | exact HB.out | apply below_alloc | apply pw_below_drewN | apply below_drew1 | refine below_set ?_ GE416.out) | exact HB.out))))).mono ?_); (case side1 => repeat (first | exact (Kd.C_below HR0_2.out HB.out) | (with_reducible refine Kd.C_alloc ?_ _) | (with_reducible refine Kd.C_drewN ?_ _) | (with_reducible refine Kd.C_drew ?_))); (case side2 => exact HC0_2.out); rintro e w12 ⟨v418, rfl, ho0, hb⟩; refine ⟨_, rfl, ?_⟩; have n0_ := Aside0.mk (Kd.S_elder' (by (with_reducible repeat (first | apply Kd.S_alloc | apply Kd.S_drewN | apply Kd.S_drew)); exact HO_3.out) (Kd.R_base ho0) hb); have n1_ := Aside0.mk (Kd.R_lower ho0 (below_size (by repeat (first | (with_reducible first | exact HB.out | apply below_alloc | apply pw_below_drewN | apply below_drew1 | refine below_set ?_ GE416.out) | exact HB.out)))); have n2_ := Aside0.mk (blk_below (g := gb416) (o := .cells #[.int .i64 a0_0, .int .i64 a0_1, .slice A0_2 l0_2.length c0_2] 43 (0, 0)) (by (with_reducible repeat (first | refine blk_drewN ?_ _ | refine blk_drew ?_ | refine blk_alloc ?_ _)); exact BK416.out) hb); have n3_ := Aside0.mk (below_step (by repeat (first | (with_reducible first | exact HB.out | apply below_alloc | apply pw_below_drewN | apply below_drew1 | refine below_set ?_ GE416.out) | exact HB.out)) hb); clear HO_3; clear BK416; clear HB; have HO_3 := n0_; have HO419 := n1_; have BK416 := n2_; have HB := n3_; clear n0_ n1_ n2_ n3_; (try clear hb); (try clear hb2); (try clear hk); (try clear hi); (try clear ho0); (try simp only [errW_none, errW_some])))
          go_ret
          exact ⟨_, by first | rfl | (simp [errW_none, errW_some] <;> rfl) | (simp [*, errW_none, errW_some] <;> rfl), by first | exact Kd.S_nil _ _ _ _ _ | exact Kd.N_nil _ _ _ _ _ | exact Kd.V_nil _ _ _ _ _ | exact Kd.Q_nil _ _ _ _ _ | exact Kd.R_nil _ _ _ _ _, by repeat (first | (with_reducible first | exact HB.out | apply below_alloc | apply pw_below_drewN | apply below_drew1 | refine below_set ?_ GE416.out) | exact HB.out)⟩
      · rw [if_neg c4] at H
        have c4b0 : decide (x9_1 < a0_0) = false := decide_eq_false c4
        clear c4
        obtain rfl := Option.some.inj H
        go_wp2
        go_ret
        exact ⟨_, by first | rfl | (simp [errW_none, errW_some] <;> rfl) | (simp [*, errW_none, errW_some] <;> rfl), by (with_reducible repeat (first | apply Kd.S_alloc | apply Kd.S_drewN | apply Kd.S_drew)); exact HO_3.out, by repeat (first | (with_reducible first | exact HB.out | apply below_alloc | apply pw_below_drewN | apply below_drew1 | refine below_set ?_ GE416.out) | exact HB.out)⟩

end Go.Proofs.YtnnondbimdmcaaaDoor.F

namespace Go.Proofs.YtnnondbimdmcaaaDoor
open Go.RowKit Go.Proofs.YtnnondbimdmcaaaDoorW.PrintWords Go.Proofs.YtnnondbimdmcaaaDoorW.PrintLast Go.Proofs.YtnnondbimdmcaaaDoorW.PrintMore
open Go.Proofs.YtnnondbimdmcaaaDoor.F
set_option linter.unusedVariables false
set_option linter.unusedSectionVars false
set_option linter.unusedSimpArgs false
variable [Errs]

theorem RowsN.of {w : World} {base g cap : Nat} {ok : Nat → Prop} {xs : List (List Int)} (h : Kd.R (Kd.slice 5 (Kd.int .u8)) 39 w base ok (.slice (some ⟨g, 0, none⟩) xs.length cap) xs) : RowsN w g xs.length cap xs := by
  obtain ⟨_, inner, ho, hr⟩ := h
  obtain ⟨hl, ho⟩ := ho
  rcases ho with ⟨h1, _⟩ | ⟨g', cap', cur, h1, hb, hh, hn, hm, hs, ht⟩
  · cases h1
  · injection h1 with e1 e2 e3
    injection e1 with e1
    injection e1 with e1
    subst e1 e3
    have hsz : (Kd.slice 5 (Kd.int .u8)).sz = 1 := rfl
    rw [hsz, Nat.mul_one] at hl hs ht
    refine ⟨rfl, hn, hm, cur, hh, hs, fun i x hi => ?_⟩
    have hil : i < xs.length := (List.getElem?_eq_some_iff.1 hi).1
    obtain ⟨v, hv, hR⟩ := hr.2 i x hi
    rw [hsz, Nat.mul_one] at hv
    obtain ⟨A, c, rfl, hc, hC, hT⟩ := own_read hR
    refine ⟨A, c, ?_, hc, hC, hT⟩
    have h2 : inner[i]? = some (Value.slice A x.length c) := by
      have h3 : i < inner.length := by omega
      rw [List.drop_eq_getElem_cons h3, List.take_succ_cons] at hv
      injection hv with hv _
      rw [List.getElem?_eq_getElem h3, hv]
    rw [← ht] at h2
    rw [List.getElem?_take_of_lt hil] at h2
    rw [← Array.getElem?_toList]
    exact h2

set_option maxHeartbeats 800000 in
theorem solve_reduce.nil (A : Option Addr) (cap : Nat) (cols : Int) (w : World) : Calls Tryd.prog 53 #[.slice A 0 cap, .int .i64 cols] w fun e w' => e = .returned (.slice none 0 0) ∧ w = w' := by
  by_cases h : 0 < cols
  · go_enter Tryd.func53, Tryd.ntmps53
    go_wp2
    go_step3
    go_wp2
    go_step3
    go_wp2
    refine wp_loop_rounds 1 ?_
    rw [rounds_succ]
    go_wp2
    try rw [Exit.noGoto_ret]
    go_ret
    exact ⟨rfl, rfl⟩
  · go_enter Tryd.func53, Tryd.ntmps53
    go_wp2
    go_step3
    go_wp2
    go_step3
    go_wp2
    refine wp_loop_rounds 1 ?_
    rw [rounds_succ]
    go_wp2
    try rw [Exit.noGoto_ret]
    go_ret
    exact ⟨rfl, rfl⟩

def OwnPost (B : Nat) (w0 : World) (v : Value) (rr : List (List Int)) (piv : List Int) (e : Ending) (w' : World) : Prop :=
  ∃ (A : Option Addr) (c : Nat) (Ap : Option Addr) (cp : Nat), v = .slice A rr.length c ∧ rr.length ≤ c ∧ e = .returned (.slice Ap piv.length cp) ∧ Kd.R (Kd.int .i64) 3 w' B (fun _ => True) (.slice Ap piv.length cp) piv ∧ Kd.C (Kd.slice 5 (Kd.int .u8)) w' A rr.length rr ∧ Below B w0 w'
theorem solve_reduce.own (k : Nat) (rows : List (List Int)) (cols : Int) (rr : List (List Int)) (piv : List Int) (v : Value) (B : Nat) (w0 w : World) (ho : Kd.R (Kd.slice 5 (Kd.int .u8)) 39 w B (fun _ => True) v rows) (hB : Below B w0 w) (hBw : B ≤ w.heap.size) (hcols : cols ≤ 1000)
    (h : solve_reduce.f k rows cols = some (rr, piv)) : Calls Tryd.prog 53 #[v, .int .i64 cols] w (OwnPost B w0 v rr piv) := by
  rcases Nat.eq_zero_or_pos rows.length with h0 | hp
  · obtain rfl : rows = [] := List.eq_nil_of_length_eq_zero h0
    obtain ⟨A, c, rfl⟩ := Kd.R_slice ho
    have hr : rr = [] ∧ piv = [] := by
      unfold solve_reduce.f at h
      cases k with
      | zero => simp [solve_reduce.l0] at h
      | succ k =>
        rw [solve_reduce.l0] at h
        by_cases hc : (0 : Int) < cols
        · rw [if_pos hc, if_pos (by simp)] at h; simp at h; exact ⟨h.1, h.2⟩
        · rw [if_neg hc] at h; simp at h; exact ⟨h.1, h.2⟩
    obtain ⟨rfl, rfl⟩ := hr
    refine (solve_reduce.nil A c cols w).mono ?_
    rintro e w' ⟨rfl, rfl⟩
    exact ⟨A, c, none, 0, rfl, by simp, rfl, Kd.R_nil _ _ _ _ _, ⟨rfl, by simp, fun h => absurd h (Nat.lt_irrefl 0)⟩, hB⟩
  · obtain ⟨g, cap, rfl, hBg, hg, _⟩ := Kd.R_form ho hp
    refine (solve_reduce.calls k g rows.length cap rows cols rr piv B w0 w (RowsN.of ho) hB hBg hcols h).mono ?_
    rintro e w' ⟨pv, rfl, hP, hR, hb⟩
    obtain ⟨Ap, cp, rfl⟩ := Kd.R_slice hP
    have hl := hR.len
    refine ⟨_, cap, Ap, cp, by rw [← hl], by have := hR.2.1; omega, rfl, Kd.R_mono hP (fun _ _ => trivial), ?_, hb⟩
    rw [hl]
    exact hR.toC

theorem box3 {w : World} {g t : Nat} {a b c : Value} (h : w.heap[g]? = some (.cells #[a, b, c] t (0, 0))) :
    w.cell? ⟨g, 0, none⟩ = some a ∧ w.cell? ⟨g, 1, none⟩ = some b ∧ w.cell? ⟨g, 2, none⟩ = some c ∧ w.frozen? ⟨g, 0, none⟩ = false ∧ w.frozen? ⟨g, 1, none⟩ = false ∧ w.frozen? ⟨g, 2, none⟩ = false :=
  ⟨(blk_cell h 0).trans rfl, (blk_cell h 1).trans rfl, (blk_cell h 2).trans rfl, blk_frozen h 0, blk_frozen h 1, blk_frozen h 2⟩
theorem box3_set {w : World} {g t : Nat} {a b c : Value} (h : w.heap[g]? = some (.cells #[a, b, c] t (0, 0))) (x y z : Value) :
    (((w.setCell ⟨g, 0, none⟩ x).setCell ⟨g, 1, none⟩ y).setCell ⟨g, 2, none⟩ z).heap[g]? = some (.cells #[x, y, z] t (0, 0)) := by
  have h1 := blk_set h 0 x
  have h2 := blk_set (h1.trans rfl : _ = some (.cells #[x, b, c] t (0, 0))) 1 y
  exact (blk_set (h2.trans rfl : _ = some (.cells #[x, y, c] t (0, 0))) 2 z).trans rfl
/-- The reduced rows' pivots, and the error. -/
def solve_Rank.f (k : Nat) (m0 m1 : Int) (l : List Int) : Option (Int × Option Int) :=
  (mat_Check.f m0 m1 l).bind fun t => if t.isNone = true then ((solve_rowsOf.f k m0 m1 l).bind fun rows => (solve_reduce.f k rows m1).bind fun r => (mat_Of.f k m1 r.1).bind fun q => some ((r.2.length : Int), q.2.2.2)) else some (0, some (t.getD 0))
def solve_Rank.L : List Int := [2, 12]
def RedPost (w : World) (n : Int) (r : Option Int) (e : Ending) (w' : World) : Prop := ∃ (a b : Int) (Av : Option Addr) (nv cv : Nat) (A : Option Addr) (c m : Nat), n = (m : Int) ∧ e = .returned (.tuple #[.agg #[.int .i64 a, .int .i64 b, .slice Av nv cv], .slice A m c, errW r]) ∧ Below w.heap.size w w'

set_option maxHeartbeats 1600000 in
set_option maxRecDepth 100000 in
theorem solve_Reduce.calls (k : Nat) (m0 m1 : Int) (A : Option Addr) (c : Nat) (l : List Int) (n : Int) (r : Option Int) (w : World) (hr : Kd.C (Kd.int .u8) w A l.length l) (hc : l.length ≤ c) (h : solve_Rank.f k m0 m1 l = some (n, r)) (hS : Sent solve_Rank.L w) :
    Calls Tryd.prog 46 #[.agg #[.int .i64 m0, .int .i64 m1, .slice A l.length c]] w (RedPost w n r) := by
  have hu43 := Tryd.underlying43
  have HR := Aside0.mk hr
  have HC := Aside0.mk hc
  have HS := Aside0.mk hS
  clear hr hc hS
  unfold solve_Rank.f at h
  obtain ⟨t, hA, h⟩ := Option.bind_eq_some_iff.mp h
  have A1 := Aside0.mk hA
  clear hA
  cases t with
  | some q =>
    rw [if_neg (show ¬ (some q).isNone = true by simp)] at h
    obtain ⟨rfl, rfl⟩ : (0 : Int) = n ∧ some q = r := by simpa using h
    clear h
    go_enter Tryd.func46, Tryd.ntmps46
    go_wp2_with (go_at_call 43; (with_reducible refine (mat_Check.calls m0 m1 _ _ l (some q) _ (Kd.C_alloc (Kd.C_alloc HR.out _) _) HC.out A1.out (Sent.sub (show ∀ c, c ∈ mat_Check.L → c ∈ solve_Rank.L by decide) (HS.out.below (below_alloc (below_alloc (Below.refl _ _) _) _)))).mono ?_); rintro e w1 ⟨rfl, hb⟩; simp only [errW_some]; have HB := Aside0.mk (below_step (below_alloc (below_alloc (Below.refl _ _) _) _) hb); have BK1 : Aside0 (w1.heap[w.heap.size]? = some (.cells #[.int .i64 m0, .int .i64 m1, .slice A l.length c] 43 (0, 0))) := ⟨blk_below (blk_alloc (blk_new w _) _) hb⟩; have BK2 : Aside0 (w1.heap[w.heap.size + 1]? = some (.cells #[.int .i64 0, .int .i64 0, .slice none 0 0] 43 (0, 0))) := ⟨blk_below (by simpa using blk_new (w.alloc (.cells #[.int .i64 m0, .int .i64 m1, .slice A l.length c] 43)) (.cells #[.int .i64 0, .int .i64 0, .slice none 0 0] 43)) hb⟩; have hz1 : w.heap.size + 1 < w1.heap.size := blk_lt BK2.out; obtain ⟨hc10, hc11, hc12, hf10, hf11, hf12⟩ := box3 BK1.out; obtain ⟨hc20, hc21, hc22, hf20, hf21, hf22⟩ := box3 BK2.out; clear hb)
    refine bodyPost_ret (results_ctt rfl _ _ (w.heap.size + 1) 43 #[.int .i64 0, .int .i64 0, .slice none 0 0] (0, 0) _ rfl ?_ Tryd.underlying43 rfl (by kernel_rfl)) rfl ?_
    · exact box3_set BK2.out _ _ _
    · exact ⟨0, 0, _, _, _, _, _, 0, rfl, rfl, below_setB _ _ (below_setB _ _ (below_setB _ _ HB.out (by omega)) (by omega)) (by omega)⟩
  | none =>
    rw [if_pos (show (none : Option Int).isNone = true by rfl)] at h
    obtain ⟨rows, hrows, h⟩ := Option.bind_eq_some_iff.mp h
    obtain ⟨⟨rr, piv⟩, hred, h⟩ := Option.bind_eq_some_iff.mp h
    obtain ⟨⟨q1, q2, q3, q4⟩, hof, h⟩ := Option.bind_eq_some_iff.mp h
    obtain ⟨rfl, rfl⟩ : (piv.length : Int) = n ∧ q4 = r := by simpa using h
    have A2 := Aside0.mk hrows
    have A3 := Aside0.mk hred
    have A4 := Aside0.mk hof
    have hm1 : m1 ≤ 1000 := by have := (mat_Check_none A1.out).2.2.2.1; omega
    have M1 := Aside0.mk hm1
    clear h hrows hred hof hm1
    go_enter Tryd.func46, Tryd.ntmps46
    go_wp2_with (first
      | (go_at_call 43; (with_reducible refine (mat_Check.calls m0 m1 _ _ l none _ (Kd.C_alloc (Kd.C_alloc HR.out _) _) HC.out A1.out (Sent.sub (show ∀ c, c ∈ mat_Check.L → c ∈ solve_Rank.L by decide) (HS.out.below (below_alloc (below_alloc (Below.refl _ _) _) _)))).mono ?_); rintro e w1 ⟨rfl, hb⟩; simp only [errW_none]; have HB := Aside0.mk (below_step (below_alloc (below_alloc (Below.refl _ _) _) _) hb); have BK1 : Aside0 (w1.heap[w.heap.size]? = some (.cells #[.int .i64 m0, .int .i64 m1, .slice A l.length c] 43 (0, 0))) := ⟨blk_below (blk_alloc (blk_new w _) _) hb⟩; have BK2 : Aside0 (w1.heap[w.heap.size + 1]? = some (.cells #[.int .i64 0, .int .i64 0, .slice none 0 0] 43 (0, 0))) := ⟨blk_below (by simpa using blk_new (w.alloc (.cells #[.int .i64 m0, .int .i64 m1, .slice A l.length c] 43)) (.cells #[.int .i64 0, .int .i64 0, .slice none 0 0] 43)) hb⟩; have hz1 : w.heap.size + 1 < w1.heap.size := blk_lt BK2.out; obtain ⟨hc10, hc11, hc12, hf10, hf11, hf12⟩ := box3 BK1.out; obtain ⟨hc20, hc21, hc22, hf20, hf21, hf22⟩ := box3 BK2.out; clear hb)
      | (go_at_call 52; (with_reducible refine (solve_rowsOf.calls k m0 m1 A c l rows _ (Kd.C_below HR.out HB.out) HC.out A2.out (Sent.sub (show ∀ c, c ∈ solve_rowsOf.L → c ∈ solve_Rank.L by decide) (HS.out.below HB.out))).mono ?_); rintro e w2 ⟨v, rfl, ho, hb⟩; have HB2 := Aside0.mk hb; have HO := Aside0.mk (Kd.S_R ho); have BK21 := Aside0.mk (blk_below BK1.out hb); have BK22 := Aside0.mk (blk_below BK2.out hb); obtain ⟨hc110, hc111, hc112, hf110, hf111, hf112⟩ := box3 BK21.out; clear ho hb)
      | (go_at_call 53; (with_reducible refine (solve_reduce.own k rows m1 rr piv v _ _ w2 HO.out HB2.out (below_size HB2.out) M1.out A3.out).mono ?_); rintro e w3 ⟨Ar, cr, Ap, cp, rfl, hcr, rfl, hP, hC, hb⟩; have HB3 := Aside0.mk hb; have HCR := Aside0.mk hC; have HLR := Aside0.mk hcr; have HP := Aside0.mk hP; have BK31 := Aside0.mk (blk_below BK1.out hb); have BK32 := Aside0.mk (blk_below BK2.out hb); obtain ⟨hc210, hc211, hc212, hf210, hf211, hf212⟩ := box3 BK31.out; clear hb hC hcr hP)
      | (go_at_call 40; (with_reducible refine (mat_Of.calls k m1 Ar cr rr q1 q2 q3 q4 _ HCR.out HLR.out A4.out (Sent.sub (show ∀ c, c ∈ mat_Of.L → c ∈ solve_Rank.L by decide) (HS.out.below (below_step HB.out HB3.out)))).mono ?_); rintro e w4 ⟨vo, rfl, ho, hb⟩; have HB4 := Aside0.mk (below_step HB.out (below_step HB3.out hb)); have BK42 := Aside0.mk (blk_below BK32.out hb); have hz4 : w.heap.size + 1 < w4.heap.size := blk_lt BK42.out; obtain ⟨hc320, hc321, hc322, hf320, hf321, hf322⟩ := box3 BK42.out; obtain ⟨Av, cv, hv⟩ := Kd.R_slice ho; subst hv; clear hb ho))
    refine bodyPost_ret (results_ctt rfl _ _ (w.heap.size + 1) 43 #[.int .i64 q1, .int .i64 q2, .slice Av q3.length cv] (0, 0) _ rfl (blk_alloc (box3_set BK42.out _ _ _) _) Tryd.underlying43 rfl (by kernel_rfl)) rfl ?_
    exact ⟨q1, q2, _, _, _, Ap, cp, piv.length, rfl, rfl, below_alloc (below_setB _ _ (below_setB _ _ (below_setB _ _ HB4.out (by omega)) (by omega)) (by omega)) _⟩

theorem solve_reduce.mono_l : ∀ k, (∀ y0 y1 y2 y3 y4, LeO (solve_reduce.l0 k y0 y1 y2 y3 y4) (solve_reduce.l0 (k + 1) y0 y1 y2 y3 y4))
  | 0 => fun _ _ _ _ _ r h => by simp [solve_reduce.l0] at h
  | k + 1 => by
    have ih := solve_reduce.mono_l k
    intro y0 y1 y2 y3 y4
    unfold solve_reduce.l0
    exact LeO.ite (LeO.ite (LeO.refl _) (LeO.bind (solve_find.mono _ _ _ _) (fun _ => LeO.ite (ih _ _ _ _ _) (LeO.ite (LeO.ite (LeO.bind (solve_clear.mono _ _ _ _) (fun _ => LeO.ite (ih _ _ _ _ _) (LeO.refl _))) (LeO.refl _)) (LeO.refl _))))) (LeO.refl _)
theorem solve_Rank.mono (m0 m1 : Int) (l : List Int) (k : Nat) : LeO (solve_Rank.f k m0 m1 l) (solve_Rank.f (k + 1) m0 m1 l) :=
  LeO.bind (LeO.refl _) (fun _ => LeO.ite (LeO.bind (solve_rowsOf.mono _ _ _ _) (fun _ => LeO.bind (solve_reduce.mono_l _ _ _ _ _ _) (fun _ => LeO.bind (mat_Of.mono _ _ _) (fun _ => LeO.refl _)))) (LeO.refl _))
set_option maxHeartbeats 800000 in
set_option maxRecDepth 100000 in
theorem solve_Rank.calls (k : Nat) (a0_0 : Int) (a0_1 : Int) (A0_2 : Option Addr) (c0_2 : Nat) (l0_2 : List Int) (r1 : Int) (r2 : Option Int) (w : World) (hr0_2 : Kd.C (Kd.int .u8) w A0_2 l0_2.length l0_2) (hc0_2 : l0_2.length ≤ c0_2) (h : solve_Rank.f k a0_0 a0_1 l0_2 = some (r1, r2)) (hS : Sent solve_Rank.L w) :
    Calls Tryd.prog 31 #[.agg #[.int .i64 a0_0, .int .i64 a0_1, .slice A0_2 l0_2.length c0_2]] w fun e w' => e = .returned (.tuple #[.int .i64 r1, errW r2]) ∧ Below w.heap.size w w' := by
  have hu43 := Tryd.underlying43
  have HR := Aside0.mk hr0_2
  have HC := Aside0.mk hc0_2
  have HS := Aside0.mk hS
  have HA := Aside0.mk h
  clear hr0_2 hc0_2 hS h
  go_enter Tryd.func31, Tryd.ntmps31
  go_wp2_with (go_at_call 46; (with_reducible refine (solve_Reduce.calls k a0_0 a0_1 _ _ l0_2 r1 r2 _ (Kd.C_alloc HR.out _) HC.out HA.out (HS.out.below (below_alloc (Below.refl _ _) _))).mono ?_); rintro e w1 ⟨a, b, Av, nv, cv, A, c, m, hm, rfl, hb⟩; have HM := Aside0.mk hm; have HB := Aside0.mk (below_step (below_alloc (Below.refl _ _) _) hb); clear hb hm)
  have hm := HM.out
  subst hm
  go_ret2
  exact ⟨rfl, below_alloc HB.out _⟩

end Go.Proofs.YtnnondbimdmcaaaDoor
