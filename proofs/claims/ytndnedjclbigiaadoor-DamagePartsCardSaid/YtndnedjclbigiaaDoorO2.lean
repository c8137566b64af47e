/- What some functions come to, each a function of its own text; joined out of: F61, G6, G2, F27, G3, F42, G7, G8, F19, Shelf, D1. No conditions but those in each theorem. -/
import Derived.Test.YtndnedjclbigiaaDoorO1
import Derived.Deep.LoopGhost
import Derived.Test.YtndnedjclbigiaaDoorProg
import Derived.Below
import Derived.Deep.Draws
import Derived.Deep.AppendLies
import Derived.Maps.AppendAt
import Derived.OwnWalk
import Derived.Laws.BytesArg
import Derived.Laws.MakeOwn
import Derived.Laws.OwnMore
import Derived.Deep.OwnRows
import Derived.Tactics
import Derived.Lib.ConvBytes
import Derived.Laws.Slices
import Derived.WalkKit
import Derived.KernelRfl
import Derived.RowKit3
import Derived.Deep.QuietTactic
import Derived.BigQuiet
import Derived.WideLaws
import Derived.Deep.DeepCutAuto
import Derived.Deep.CutBlock
import Derived.Deep.RegionHeld3
import Derived.Laws.Rows
import Derived.Lib.AppendStr
import Derived.ArgAppend
import Derived.Laws.IdiomCopy
import Derived.OrdersHeld
import Derived.Laws.BitsLemmas
import Derived.RowKit
import Derived.Test.YtndnedjclbigiaaDoorWWords
import Derived.Test.YtndnedjclbigiaaDoorWLast
import Derived.Test.YtndnedjclbigiaaDoorWTab
import Derived.Test.YtndnedjclbigiaaDoorWFour
import Derived.Test.YtndnedjclbigiaaDoorWQPut
import Derived.Test.YtndnedjclbigiaaDoorWApart
import Derived.Test.YtndnedjclbigiaaDoorWArr
import Derived.Test.YtndnedjclbigiaaDoorWZeros
import Derived.Test.YtndnedjclbigiaaDoorWFoot
import Derived.Test.YtndnedjclbigiaaDoorWKept
import Derived.Test.YtndnedjclbigiaaDoorWShare
import Derived.Test.YtndnedjclbigiaaDoorWN
import Derived.Test.YtndnedjclbigiaaDoorWFootNe
import Derived.Test.YtndnedjclbigiaaDoorWAt
import Derived.Test.YtndnedjclbigiaaDoorWEqStruct
import Derived.Test.YtndnedjclbigiaaDoorWRepsOne
import Derived.Test.YtndnedjclbigiaaDoorWInv
import Derived.Test.YtndnedjclbigiaaDoorWInvWords
import Derived.Test.YtndnedjclbigiaaDoorWGuard
import Derived.Test.YtndnedjclbigiaaDoorWNEv
import Derived.Test.YtndnedjclbigiaaDoorWMore
import Derived.Lib.SliceRun
import Derived.Shelf.Strings.Builder1
import Derived.Shelf.Strings.Builder2
import Derived.Shelf.Strings.OnBuilder
import Derived.Shelf.Small.Bits
import Derived.Shelf.Strconv.Itoa0
import Derived.Shelf.Strconv.Itoa1
import Derived.Shelf.LaysM
import Derived.Shelf.Strconv.Itoa2
import Derived.Shelf.Strconv.Itoa3
import Derived.Shelf.Sort.Plain
import Derived.Ground.Names2Prog
import Derived.Shelf.Slices.SearchI
import Derived.Shelf.Slices.In.SortNone
import Derived.Lib.SlKeysI
import Derived.Maps.OwnSet
import Derived.Maps.RangeWalk
namespace Go.Proofs.YtndnedjclbigiaaDoor.F
open Go.RowKit Go.Proofs.YtndnedjclbigiaaDoorW.PrintWords Go.Proofs.YtndnedjclbigiaaDoorW.PrintLast Go.Proofs.YtndnedjclbigiaaDoorW.PrintMore
attribute [local go_sem] max2_int min2_int max_two min_two max_three min_three max_four min_four   -- for this text's walks alone
set_option linter.unusedVariables false
set_option linter.unusedSimpArgs false
set_option linter.unusedSectionVars false
open Go.Proofs.YtndnedjclbigiaaDoor
variable [Errs]

/-! ### solve_find: function 61 -/
def solve_find.l0 : Nat → List (List Int) → Int → Int → Option (Int)
  | 0, _, _, _ => none
  | k + 1, x0, x2, x7 => if x7 < (x0.length : Int) then (if 0 ≤ x7 then (if 0 ≤ x2 then (if x2 < ((rd_L2 x0 x7).length : Int) then (if (rd (rd_L2 x0 x7) x2) = 0 then (solve_find.l0 k x0 x2 (wrap64 (x7 + 1))) else (some x7)) else (none)) else (none)) else (none)) else (some (-1))
def solve_find.f (k : Nat) (l0 : List (List Int)) (a1 : Int) (a2 : Int) : Option (Int) := solve_find.l0 k l0 a2 a1
theorem solve_find.mono_l : ∀ k, (∀ y0 y1 y2, LeO (solve_find.l0 k y0 y1 y2) (solve_find.l0 (k + 1) y0 y1 y2))
  | 0 => fun _ _ _ r h => by simp [solve_find.l0] at h
  | k + 1 => by
    have ih0 := solve_find.mono_l k
    · intro y0 y1 y2
      unfold solve_find.l0
      repeat' first
      | (with_reducible exact ih0 _ _ _)
      | (with_reducible exact LeO.refl _)
      | (with_reducible exact LeO.none _)
      | (with_reducible refine LeO.ite ?_ ?_)
      | (with_reducible refine LeO.bind ?_ (fun _ => ?_))
      | exact ih0 _ _ _
      | exact LeO.none _
      | refine LeO.ite ?_ ?_
      | refine LeO.bind ?_ (fun _ => ?_)
theorem solve_find.mono : ∀ a0 a1 a2 k, LeO (solve_find.f k a0 a1 a2) (solve_find.f (k + 1) a0 a1 a2) := by
  intro a0 a1 a2 k
  have ih0 := solve_find.mono_l k
  unfold solve_find.f
  repeat' first
      | (with_reducible exact ih0 _ _ _)
      | (with_reducible exact LeO.refl _)
      | (with_reducible exact LeO.none _)
      | (with_reducible refine LeO.ite ?_ ?_)
      | (with_reducible refine LeO.bind ?_ (fun _ => ?_))
      | exact ih0 _ _ _
      | exact LeO.none _
      | refine LeO.ite ?_ ?_
      | refine LeO.bind ?_ (fun _ => ?_)
set_option maxHeartbeats 8000000 in
set_option maxRecDepth 100000 in
theorem solve_find.calls (k : Nat) (A0 : Option Addr) (c0 : Nat) (l0 : List (List Int)) (a1 : Int) (a2 : Int) (r : Int) (w : World) (hr0 : Kd.C (Kd.slice 5 (Kd.int .u8)) w A0 l0.length l0) (hc0 : l0.length ≤ c0) (h : solve_find.f k l0 a1 a2 = some r) :
    Calls Tryd.prog 61 #[.slice A0 l0.length c0, .int .i64 a1, .int .i64 a2] w fun e w' => e = .returned (.int .i64 r) ∧ Drawn0 w w' := by
  have HR0 := Aside0.mk hr0
  have HC0 := Aside0.mk hc0
  clear hr0 hc0
  have H : (solve_find.l0 k l0 a2 a1) = some r := h
  clear h
  have H' := Aside0.mk H
  clear H
  go_enter Tryd.func61, Tryd.ntmps61
  go_wp2
  go_loopg [7] k (fun kq v7 w' => ∃ (x7_1 : Int), v7 = .int .i64 x7_1 ∧ Aside0 (solve_find.l0 kq l0 a2 x7_1 = some r) ∧ Aside0 (kq ≤ k) ∧ Drawn0 w w')
  case atStart => exact ⟨(a1), (by first | rfl | (simp; done) | (simp [*]; done)), H', ⟨Nat.le_refl _⟩, by repeat (first | exact Drawn0.refl _ | apply Drawn0.step)⟩
  case round =>
    clear H'
    try clear p2
    obtain ⟨x7_1, rfl, HA, HK1, ⟨m1, rfl⟩⟩ := hrel
    cases gk with
    | zero => exact absurd HA.out (by simp [solve_find.l0])
    | succ k1 =>
      have H := HA.out
      clear HA
      first | rw [solve_find.l0] at H | simp only [solve_find.l0] at H
      by_cases c4 : x7_1 < (l0.length : Int)
      · rw [if_pos c4] at H
        have c4b0 : decide (x7_1 < (l0.length : Int)) = true := decide_eq_true c4
        clear c4
        by_cases c5 : 0 ≤ x7_1
        · rw [if_pos c5] at H
          have c5b0 : decide (0 ≤ x7_1) = true := decide_eq_true c5
          clear c5
          by_cases c6 : 0 ≤ a2
          · rw [if_pos c6] at H
            have c6b0 : decide (0 ≤ a2) = true := decide_eq_true c6
            clear c6
            by_cases c7 : a2 < ((rd_L2 l0 x7_1).length : Int)
            · rw [if_pos c7] at H
              have c7b0 : decide (a2 < ((rd_L2 l0 x7_1).length : Int)) = true := decide_eq_true c7
              clear c7
              by_cases c8 : (rd (rd_L2 l0 x7_1) a2) = 0
              · rw [if_pos c8] at H
                have c8b0 : ((rd (rd_L2 l0 x7_1) a2) == 0) = true := beq_iff_eq.mpr c8
                have c8b1 : ((rd (rd_L2 l0 x7_1) a2) != 0) = false := bne_eq_false_iff_eq.mpr c8
                clear c8
                have H' := Aside0.mk H
                clear H
                have p318 : 0 ≤ (x7_1 : Int) := of_decide_eq_true (by first | (with_reducible assumption) | assumption)
                have q318 : x7_1 < (l0.length : Int) := of_decide_eq_true (by first | (with_reducible assumption) | assumption)
                obtain ⟨ad318, A318_0, c318_0, e318, hx318_0, hl318_0, hi318_0⟩ := at_L2 HR0.out x7_1 p318 q318
                cases e318
                have HR318_0 := Aside0.mk hi318_0
                have HC318_0 := Aside0.mk hl318_0
                clear hi318_0 hl318_0
                replace p318 := eq_true p318
                replace q318 := eq_true q318
                have p319 : 0 ≤ (a2 : Int) := of_decide_eq_true (by first | (with_reducible assumption) | assumption)
                have q319 : a2 < ((rd_L2 l0 x7_1).length : Int) := of_decide_eq_true (by first | (with_reducible assumption) | assumption)
                obtain ⟨ad319, e319, hx319_0⟩ := Kd.at_int HR318_0.out a2 p319 q319
                cases e319
                replace p319 := eq_true p319
                replace q319 := eq_true q319
                go_wp2
                go_roundg k1
                case measure => have := HK1.out; omega
                case rel => exact ⟨(wrap64 (x7_1 + 1)), (by first | rfl | (simp; done) | (simp [*]; done)), H', ⟨by have := HK1.out; omega⟩, by repeat (first | exact Drawn0.refl _ | apply Drawn0.step)⟩
              · rw [if_neg c8] at H
                have c8b0 : ((rd (rd_L2 l0 x7_1) a2) == 0) = false := beq_eq_false_iff_ne.mpr c8
                have c8b1 : ((rd (rd_L2 l0 x7_1) a2) != 0) = true := bne_iff_ne.mpr c8
                obtain rfl := Option.some.inj H
                have p318 : 0 ≤ (x7_1 : Int) := of_decide_eq_true (by first | (with_reducible assumption) | assumption)
                have q318 : x7_1 < (l0.length : Int) := of_decide_eq_true (by first | (with_reducible assumption) | assumption)
                obtain ⟨ad318, A318_0, c318_0, e318, hx318_0, hl318_0, hi318_0⟩ := at_L2 HR0.out x7_1 p318 q318
                cases e318
                have HR318_0 := Aside0.mk hi318_0
                have HC318_0 := Aside0.mk hl318_0
                clear hi318_0 hl318_0
                replace p318 := eq_true p318
                replace q318 := eq_true q318
                have p319 : 0 ≤ (a2 : Int) := of_decide_eq_true (by first | (with_reducible assumption) | assumption)
                have q319 : a2 < ((rd_L2 l0 x7_1).length : Int) := of_decide_eq_true (by first | (with_reducible assumption) | assumption)
                obtain ⟨ad319, e319, hx319_0⟩ := Kd.at_int HR318_0.out a2 p319 q319
                cases e319
                replace p319 := eq_true p319
                replace q319 := eq_true q319
                go_wp2
                go_ret
                exact ⟨by first | rfl | (simp; done) | (simp [*]; done), by repeat (first | exact Drawn0.refl _ | apply Drawn0.step)⟩
            · rw [if_neg c7] at H
              exact absurd H (by simp)
          · rw [if_neg c6] at H
            exact absurd H (by simp)
        · rw [if_neg c5] at H
          exact absurd H (by simp)
      · rw [if_neg c4] at H
        have c4b0 : decide (x7_1 < (l0.length : Int)) = false := decide_eq_false c4
        clear c4
        obtain rfl := Option.some.inj H
        go_wp2
        go_ret
        exact ⟨by first | rfl | (simp; done) | (simp [*]; done), by repeat (first | exact Drawn0.refl _ | apply Drawn0.step)⟩

end Go.Proofs.YtndnedjclbigiaaDoor.F

namespace Go.Proofs.YtndnedjclbigiaaDoor
open Go.RowKit Go.Proofs.YtndnedjclbigiaaDoorW.PrintWords Go.Proofs.YtndnedjclbigiaaDoorW.PrintLast Go.Proofs.YtndnedjclbigiaaDoorW.PrintMore
open Go.Proofs.YtndnedjclbigiaaDoor.F
set_option linter.unusedVariables false
set_option linter.unusedSectionVars false
set_option linter.unusedSimpArgs false
variable [Errs]

theorem RowsN.toC {w : World} {g n cap : Nat} {xs : List (List Int)} (h : RowsN w g n cap xs) : Kd.C (Kd.slice 5 (Kd.int .u8)) w (some ⟨g, 0, none⟩) n xs := by
  obtain ⟨hl, hn, hm, cur, hc, hs, hx⟩ := h
  refine ⟨hl, by unfold maxLen at hm; omega, fun hp => ⟨_, rfl, fun j p hj => ?_⟩⟩
  obtain ⟨A, c, h2, h3, h4, h5⟩ := hx j p hj
  refine ⟨[Value.slice A p.length c], rfl, ⟨A, c, rfl, h3, h4⟩, fun i u hu => ?_⟩
  cases i with
  | succ i => simp at hu
  | zero =>
    obtain rfl : Value.slice A p.length c = u := by simpa using hu
    have e1 : (⟨g, 0, none⟩ : Addr).add (j * (Kd.slice 5 (Kd.int .u8)).sz + 0) = ⟨g, j, none⟩ := by
      rw [add_plain]; show (⟨g, j * 1 + 0, none⟩ : Addr) = _; rw [Nat.mul_one, Nat.add_zero]
    rw [e1]
    exact (blk_cell hc _).trans h2

def swp (rows : List (List Int)) (a i : Int) : List (List Int) := (rows.set a.toNat (rrd rows i)).set i.toNat (rrd rows a)
def solve_reduce.l0 : Nat → List (List Int) → Int → Int → Int → List Int → Option (List (List Int) × List Int)
  | 0, _, _, _, _, _ => none
  | k + 1, rows, cols, col, at_, piv => if col < cols then (if at_ = (rows.length : Int) then some (rows, piv) else (solve_find.f k rows at_ col).bind fun i => if i < 0 then solve_reduce.l0 k rows cols (col + 1) at_ piv else
      (if at_ < (rows.length : Int) then (if i < (rows.length : Int) then (solve_clear.f k (swp rows at_ i) at_ col).bind fun rs => (if piv.length < 17592186044416 then solve_reduce.l0 k rs cols (col + 1) (at_ + 1) (piv ++ [col]) else none) else none) else none)) else some (rows, piv)
def solve_reduce.f (k : Nat) (rows : List (List Int)) (cols : Int) : Option (List (List Int) × List Int) := solve_reduce.l0 k rows cols 0 0 []

theorem info3e : (Tryd.prog.info? 3).map (fun i => (i.zero, i.size, i.bytes)) = some (some (.int .i64 0), 1, 8) := by kernel_rfl
def ReducePost (B : Nat) (w0 : World) (g n cap : Nat) (r : List (List Int)) (p : List Int) (e : Ending) (w' : World) : Prop :=
  ∃ v, e = .returned v ∧ Kd.R (Kd.int .i64) 3 w' B (fun k => k ≠ g) v p ∧ RowsN w' g n cap r ∧ Below B w0 w'

set_option maxHeartbeats 3200000 in
set_option maxRecDepth 100000 in
theorem solve_reduce.calls (k g n cap : Nat) (rows : List (List Int)) (cols : Int) (r : List (List Int)) (p : List Int) (B : Nat) (w0 w : World) (hR : RowsN w g n cap rows) (hB : Below B w0 w) (hBg : B ≤ g) (hcols : cols ≤ 1000) (h : solve_reduce.f k rows cols = some (r, p)) :
    Calls Tryd.prog 43 #[.slice (some ⟨g, 0, none⟩) n cap, .int .i64 cols] w (ReducePost B w0 g n cap r p) := by
  have HR := Aside0.mk hR
  have HB := Aside0.mk hB
  have HBg := Aside0.mk hBg
  have HA : Aside0 (solve_reduce.l0 k rows cols 0 0 [] = some (r, p)) := Aside0.mk h
  clear hR hB hBg h
  go_enter Tryd.func43, Tryd.ntmps43
  go_wp2
  go_step3
  go_wp2
  go_step3
  go_wp2
  go_loopg [5, 6, 10] k (fun kq v5 v6 v10 w' => ∃ (pv : Value) (piv : List Int) (at_ col : Int) (rs : List (List Int)), v5 = pv ∧ v6 = .int .i64 at_ ∧ v10 = .int .i64 col ∧ Aside0 (0 ≤ at_ ∧ 0 ≤ col ∧ at_ ≤ col) ∧ Aside0 (solve_reduce.l0 kq rs cols col at_ piv = some (r, p)) ∧ Aside0 (kq ≤ k) ∧ Aside0 (Kd.R (Kd.int .i64) 3 w' B (fun k => k ≠ g) pv piv) ∧ Aside0 (RowsN w' g n cap rs) ∧ Aside0 (Below B w0 w'))
  case atStart => exact ⟨_, [], 0, 0, rows, rfl, rfl, rfl, ⟨by omega, by omega, by omega⟩, HA, ⟨Nat.le_refl _⟩, ⟨Kd.R_nil _ _ _ _ _⟩, HR, HB⟩
  case round =>
    clear HA HR HB
    obtain ⟨pv, piv, at_, col, rs, rfl, rfl, rfl, H0, HA, HK, HP, HR, HB⟩ := hrel
    cases gk with
    | zero => exact absurd HA.out (by simp [solve_reduce.l0])
    | succ k1 =>
      have H := HA.out
      clear HA
      rw [solve_reduce.l0] at H
      obtain ⟨ha0, hc0, hac⟩ := H0.out
      have hln := HR.out.len
      have HL := Aside0.mk hln
      by_cases hlt : col < cols
      · rw [if_pos hlt] at H
        by_cases he : at_ = (rs.length : Int)
        · rw [if_pos he] at H
          obtain ⟨rfl, rfl⟩ : rs = r ∧ piv = p := by simpa using H
          clear H
          have c0 : (at_ == (n : Int)) = true := by rw [← hln]; exact beq_iff_eq.mpr he
          clear he hln
          go_wp2
          try rw [Exit.noGoto_ret]
          go_ret
          exact ⟨_, rfl, HP.out, HR.out, HB.out⟩
        · rw [if_neg he] at H
          have c0 : (at_ == (n : Int)) = false := by rw [← hln]; exact beq_eq_false_iff_ne.mpr he
          obtain ⟨i, hf, H⟩ := Option.bind_eq_some_iff.mp H
          have hw1 : wrap64 (col + 1) = col + 1 := by unfold wrap64; omega
          have hw2 : wrap64 (at_ + 1) = at_ + 1 := by unfold wrap64; omega
          have FIND : Aside0 (∀ w1, RowsN w1 g n cap rs → Calls Tryd.prog 61 #[.slice (some ⟨g, 0, none⟩) n cap, .int .i64 at_, .int .i64 col] w1 fun e w' => e = .returned (.int .i64 i) ∧ Drawn0 w1 w') := by
            refine ⟨fun w1 h1 => ?_⟩
            have := solve_find.calls k1 (some ⟨g, 0, none⟩) cap rs at_ col i w1 (by rw [hln]; exact h1.toC) (by rw [hln]; exact h1.2.1) hf
            rw [hln] at this
            exact this
          by_cases hi : i < 0
          · rw [if_pos hi] at H
            have H' := Aside0.mk H
            clear H hf he hln
            go_wp2_with (go_at_call 61; (with_reducible refine (FIND.out _ HR.out).mono ?_); rintro e w' ⟨rfl, ⟨nd, rfl⟩⟩)
            go_roundg k1
            case measure => have := HK.out; omega
            case rel => exact ⟨_, piv, at_, col + 1, rs, rfl, rfl, by first | rfl | simp [hw1], ⟨by omega, by omega, by omega⟩, H', ⟨by have := HK.out; omega⟩, ⟨Kd.R_drewN HP.out nd⟩, ⟨HR.out.drewN nd⟩, ⟨pw_below_drewN HB.out nd⟩⟩
          · rw [if_neg hi] at H
            by_cases hal : at_ < (rs.length : Int)
            rotate_left
            · rw [if_neg hal] at H; cases H
            by_cases hil : i < (rs.length : Int)
            rotate_left
            · rw [if_pos hal, if_neg hil] at H; cases H
            rw [if_pos hal, if_pos hil] at H
            obtain ⟨rc, hcl, H⟩ := Option.bind_eq_some_iff.mp H
            by_cases hpl : piv.length < 17592186044416
            rotate_left
            · rw [if_neg hpl] at H; cases H
            rw [if_pos hpl] at H
            have H' := Aside0.mk H
            have A1 := Aside0.mk hcl
            have HPL := Aside0.mk hpl
            have han : at_ < (n : Int) := by omega
            have hin : i < (n : Int) := by omega
            have hi0 : 0 ≤ i := by omega
            have FIND2 : Aside0 (∀ w1 pv, RowsN w1 g n cap rs → Kd.R (Kd.int .i64) 3 w1 B (fun k => k ≠ g) pv piv → Below B w0 w1 → Calls Tryd.prog 61 #[.slice (some ⟨g, 0, none⟩) n cap, .int .i64 at_, .int .i64 col] w1 fun e w' => e = .returned (.int .i64 i) ∧ RowsN w' g n cap rs ∧ Kd.R (Kd.int .i64) 3 w' B (fun k => k ≠ g) pv piv ∧ Below B w0 w') := by
              refine ⟨fun w1 pv h1 h2 h3 => (FIND.out w1 h1).mono ?_⟩
              rintro e w' ⟨rfl, ⟨nd, rfl⟩⟩
              exact ⟨rfl, h1.drewN nd, Kd.R_drewN h2 nd, pw_below_drewN h3 nd⟩
            clear H hf he hln hcl hpl hal hil hi FIND
            go_wp2_with (go_at_call 61; (with_reducible refine (FIND2.out _ _ HR.out HP.out HB.out).mono ?_); rintro e w2 ⟨rfl, q1, q2, q3⟩; have HR2 := Aside0.mk q1; have HP2 := Aside0.mk q2; have HB2 := Aside0.mk q3; clear q1 q2 q3)
            clear HR HP HB FIND2
            obtain ⟨Ai, ci, hcelli, hfzi, hcli, hcri, hoffi⟩ := HR2.out.get i hi0 hin
            obtain ⟨Aa, ca, hcella, hfza, hcla, hcra, hoffa⟩ := HR2.out.get at_ ha0 han
            have hsw := ((HR2.out.drewN 1).set at_ ha0 han Ai ci _ hcli (Kd.C_drewN hcri 1) hoffi)
            obtain ⟨cur0, hcur0⟩ := (HR2.out.drewN 1).blk
            have KS := keep_set (o := at_.toNat) (.slice Ai (rrd rs i).length ci) hcur0 (by decide)
            have hsw2 := hsw.set i hi0 hin Aa ca (rrd rs at_) hcla (C_typ (Kd.C_drewN hcra 1) hoffa KS) (hoffa.keep KS)
            have HSW := Aside0.mk hsw2
            have hbs := below_setB i.toNat (.slice Aa (rrd rs at_).length ca) (below_setB at_.toNat (.slice Ai (rrd rs i).length ci) (pw_below_drewN HB2.out 1) HBg.out) HBg.out
            have HBS := Aside0.mk hbs
            have hps : Kd.R (Kd.int .i64) 3 (((w2.drewN 1).setCell ⟨g, at_.toNat, none⟩ (.slice Ai (rrd rs i).length ci)).setCell ⟨g, i.toNat, none⟩ (.slice Aa (rrd rs at_).length ca)) B (fun k => k ≠ g) _ piv := Kd.R_far (Kd.R_far (Kd.R_drewN HP2.out 1) (fun _ h => h) _) (fun _ h => h) _
            have HPS := Aside0.mk hps
            obtain ⟨v9, hy9⟩ : ∃ v9, (w2.setCell ⟨g, at_.toNat, none⟩ (.slice Ai (rrd rs i).length ci)).cell? ⟨g, i.toNat, none⟩ = some v9 := by
              obtain ⟨A9, c9, h9, _⟩ := (HR2.out.set at_ ha0 han Ai ci _ hcli hcri hoffi).get i hi0 hin
              exact ⟨_, h9⟩
            clear hsw hsw2 hbs hps KS hcur0 hcli hcri hoffi hcla hcra hoffa
            refine start_ (n := 16) (S := fun w' => w'.cell? ⟨g, i.toNat, none⟩ = some (.slice Ai (rrd rs i).length ci) ∧ w'.cell? ⟨g, at_.toNat, none⟩ = some (.slice Aa (rrd rs at_).length ca) ∧ w'.frozen? ⟨g, i.toNat, none⟩ = false ∧ w'.frozen? ⟨g, at_.toNat, none⟩ = false) (ds := [13, 15]) #[false, false, false, false, false, false, false, false, false, false, false, false, false, false, false, false] (by kernel_rfl) rfl rfl ⟨hcelli, hcella, hfzi, hfza⟩ (fun hHeld => ?_)
            refine pure_ (i := 0) (N := some 23) (v := ?_) (a' := ?_) #[true, false, false, false, false, false, false, false, false, false, false, false, false, false, false, false] rfl rfl (by kernel_rfl) (fun _ _ _ h => h) (Or.inl ⟨by rfl, ?_⟩) ?_ ?_
            rotate_left
            · intro w'
              go_simp
              with_reducible rfl
            rotate_left
            · simp only [Act.put, List.setIfInBounds_toArray, List.set_cons_zero, List.set_cons_succ, i64_w, i32_w]
              rfl
            refine pure_ (i := 1) (N := some 24) (v := ?_) (a' := ?_) #[true, true, false, false, false, false, false, false, false, false, false, false, false, false, false, false] rfl rfl (by kernel_rfl) (fun _ _ _ h => h) (Or.inl ⟨by rfl, ?_⟩) ?_ ?_
            rotate_left
            · intro w'
              go_simp
              with_reducible rfl
            rotate_left
            · simp only [Act.put, List.setIfInBounds_toArray, List.set_cons_zero, List.set_cons_succ, i64_w, i32_w]
              rfl
            refine pure_ (i := 2) (N := some 25) (v := ?_) (a' := ?_) #[true, true, true, false, false, false, false, false, false, false, false, false, false, false, false, false] rfl rfl (by kernel_rfl) (fun _ _ _ h => h) (Or.inl ⟨by rfl, ?_⟩) ?_ ?_
            rotate_left
            · intro w'
              go_simp
              with_reducible rfl
            rotate_left
            · simp only [Act.put, List.setIfInBounds_toArray, List.set_cons_zero, List.set_cons_succ, i64_w, i32_w]
              rfl
            refine pure_ (i := 3) (N := some 26) (v := ?_) (a' := ?_) #[true, true, true, true, false, false, false, false, false, false, false, false, false, false, false, false] rfl rfl (by kernel_rfl) (fun _ _ _ h => h) (Or.inl ⟨by rfl, ?_⟩) ?_ ?_
            rotate_left
            · intro w'
              go_simp
              with_reducible rfl
            rotate_left
            · simp only [Act.put, List.setIfInBounds_toArray, List.set_cons_zero, List.set_cons_succ, i64_w, i32_w]
              rfl
            refine pure_ (i := 4) (N := some 27) (v := ?_) (a' := ?_) #[true, true, true, true, true, false, false, false, false, false, false, false, false, false, false, false] rfl rfl (by kernel_rfl) (fun _ _ _ h => h) (Or.inl ⟨by rfl, ?_⟩) ?_ ?_
            rotate_left
            · intro w'
              go_simp
              with_reducible rfl
            rotate_left
            · simp only [Act.put, List.setIfInBounds_toArray, List.set_cons_zero, List.set_cons_succ, i64_w, i32_w]
              rfl
            refine pure_ (i := 5) (N := some 28) (v := ?_) (a' := ?_) #[true, true, true, true, true, true, false, false, false, false, false, false, false, false, false, false] rfl rfl (by kernel_rfl) (fun _ _ _ h => h) (Or.inl ⟨by rfl, ?_⟩) ?_ ?_
            rotate_left
            · intro w'
              go_simp
              with_reducible rfl
            rotate_left
            · simp only [Act.put, List.setIfInBounds_toArray, List.set_cons_zero, List.set_cons_succ, i64_w, i32_w]
              rfl
            refine pure_ (i := 6) (N := some 29) (v := ?_) (a' := ?_) #[true, true, true, true, true, true, true, false, false, false, false, false, false, false, false, false] rfl rfl (by kernel_rfl) (fun _ _ _ h => h) (Or.inl ⟨by rfl, ?_⟩) ?_ ?_
            rotate_left
            · intro w'
              go_simp
              with_reducible rfl
            rotate_left
            · simp only [Act.put, List.setIfInBounds_toArray, List.set_cons_zero, List.set_cons_succ, i64_w, i32_w]
              rfl
            refine take_ (i := 7) (N := some 30) (v := ?_) (a' := ?_) #[true, true, true, true, true, true, true, true, false, false, false, false, false, false, false, false] rfl rfl (by kernel_rfl) (fun _ _ _ h => h) (Or.inl ⟨by rfl, ?_⟩) hHeld ?_ ?_
            rotate_left
            · rintro w' ⟨s0, s1, s2, s3⟩
              go_simp
              with_reducible rfl
            rotate_left
            · simp only [Act.put, List.setIfInBounds_toArray, List.set_cons_zero, List.set_cons_succ, i64_w, i32_w]
              rfl
            refine pure_ (i := 8) (N := some 31) (v := ?_) (a' := ?_) #[true, true, true, true, true, true, true, true, true, false, false, false, false, false, false, false] rfl rfl (by kernel_rfl) (fun _ _ _ h => h) (Or.inl ⟨by rfl, ?_⟩) ?_ ?_
            rotate_left
            · intro w'
              go_simp
              with_reducible rfl
            rotate_left
            · simp only [Act.put, List.setIfInBounds_toArray, List.set_cons_zero, List.set_cons_succ, i64_w, i32_w]
              rfl
            refine pure_ (i := 9) (N := some 32) (v := ?_) (a' := ?_) #[true, true, true, true, true, true, true, true, true, true, false, false, false, false, false, false] rfl rfl (by kernel_rfl) (fun _ _ _ h => h) (Or.inl ⟨by rfl, ?_⟩) ?_ ?_
            rotate_left
            · intro w'
              go_simp
              with_reducible rfl
            rotate_left
            · simp only [Act.put, List.setIfInBounds_toArray, List.set_cons_zero, List.set_cons_succ, i64_w, i32_w]
              rfl
            refine pure_ (i := 10) (N := some 33) (v := ?_) (a' := ?_) #[true, true, true, true, true, true, true, true, true, true, true, false, false, false, false, false] rfl rfl (by kernel_rfl) (fun _ _ _ h => h) (Or.inl ⟨by rfl, ?_⟩) ?_ ?_
            rotate_left
            · intro w'
              go_simp
              with_reducible rfl
            rotate_left
            · simp only [Act.put, List.setIfInBounds_toArray, List.set_cons_zero, List.set_cons_succ, i64_w, i32_w]
              rfl
            refine take_ (i := 11) (N := some 34) (v := ?_) (a' := ?_) #[true, true, true, true, true, true, true, true, true, true, true, true, false, false, false, false] rfl rfl (by kernel_rfl) (fun _ _ _ h => h) (Or.inl ⟨by rfl, ?_⟩) hHeld ?_ ?_
            rotate_left
            · rintro w' ⟨s0, s1, s2, s3⟩
              go_simp
              with_reducible rfl
            rotate_left
            · simp only [Act.put, List.setIfInBounds_toArray, List.set_cons_zero, List.set_cons_succ, i64_w, i32_w]
              rfl
            refine pure_ (i := 12) (N := some 35) (v := ?_) (a' := ?_) #[true, true, true, true, true, true, true, true, true, true, true, true, true, false, false, false] rfl rfl (by kernel_rfl) (fun _ _ _ h => h) (Or.inl ⟨by rfl, ?_⟩) ?_ ?_
            rotate_left
            · intro w'
              go_simp
              with_reducible rfl
            rotate_left
            · simp only [Act.put, List.setIfInBounds_toArray, List.set_cons_zero, List.set_cons_succ, i64_w, i32_w]
              rfl
            refine last_ (i := 13) (N := none) #[true, true, true, true, true, true, true, true, true, true, true, true, true, true, false, false] rfl rfl (by kernel_rfl) (by decide) (fun K hK => ?_)
            refine skip_ (w1 := ?_) (by rfl) rfl ?_ ?_
            rotate_left
            · go_simp
              rfl
            refine hK.out _ _ ?_
            clear hK K
            refine pure_ (i := 14) (N := some 36) (v := ?_) (a' := ?_) #[true, true, true, true, true, true, true, true, true, true, true, true, true, true, true, false] rfl rfl (by kernel_rfl) (fun _ _ _ h => h) (Or.inl ⟨by rfl, ?_⟩) ?_ ?_
            rotate_left
            · intro w'
              go_simp
              with_reducible rfl
            rotate_left
            · simp only [Act.put, List.setIfInBounds_toArray, List.set_cons_zero, List.set_cons_succ, i64_w, i32_w]
              rfl
            refine last_ (i := 15) (N := none) #[true, true, true, true, true, true, true, true, true, true, true, true, true, true, true, true] rfl rfl (by kernel_rfl) (by decide) (fun K hK => ?_)
            refine skip_ (w1 := ?_) (by rfl) rfl ?_ ?_
            rotate_left
            · go_simp
              rfl
            refine hK.out _ _ ?_
            clear hK K
            refine done_ (by kernel_rfl) ?_
            obtain ⟨w3, hw3⟩ : ∃ w3, ((w2.setCell ⟨g, at_.toNat, none⟩ (.slice Ai (rrd rs i).length ci)).setCell ⟨g, i.toNat, none⟩ (.slice Aa (rrd rs at_).length ca)).drew = w3 := ⟨_, rfl⟩
            rw [hw3]
            have HR3 : Aside0 (RowsN w3 g n cap (swp rs at_ i)) := ⟨by rw [← hw3]; exact HSW.out⟩
            have HB3 : Aside0 (Below B w0 w3) := ⟨by rw [← hw3]; exact HBS.out⟩
            have HP3 : Aside0 (Kd.R (Kd.int .i64) 3 w3 B (fun k => k ≠ g) _ piv) := ⟨by rw [← hw3]; exact HPS.out⟩
            clear hw3 HSW HBS HPS HR2 HB2 HP2 hcelli hfzi hcella hfza hy9
            go_wp2_with (first
              | (go_at_call 62; (with_reducible refine (solve_clear.calls k1 g n cap (swp rs at_ i) at_ col rc B w0 w3 HR3.out HB3.out HBg.out A1.out).mono ?_); rintro e w4 ⟨rfl, q1, q2, q3⟩; have HR4 := Aside0.mk q1; have HB4 := Aside0.mk q2; have HP4 := Aside0.mk (Kd.R_keep HP3.out q3 (fun _ h => h)); clear q1 q2 q3)
              | ((with_reducible refine gate_builtin (b := .append) (xs := #[.tmp 41, .tmp 43]) rfl ?_); at_builtin; refine Kd.R_append (Kd.int .i64) (w0 := w0) B rfl (.tmp 41) (.tmp 43) 22 3 (.int .i64 0) 8 rfl Tryd.underlying22 info3e rfl (by decide) (by omega) _ piv col [.int .i64 col] (fun k => k ≠ g) (fun _ => False) rfl rfl ?aP (fun _ hk => hk.elim) ?aF HP4.out HB4.out ?aS ?aL ?_; (case aP => exact rfl); (case aF => exact (fun k hk e => by have := HR4.out.lt; omega)); (case aS => exact Nat.le_trans HBg.out (Nat.le_of_lt HR4.out.lt)); (case aL => have := HPL.out; omega); intro v5 w5 ho hb hg hat; have HP5 := Aside0.mk ho; have HB5 := Aside0.mk hb; have HR5 := Aside0.mk (HR4.out.grown hg (fun b e => by obtain ⟨inner, hi⟩ := Kd.R_own HP4.out; obtain ⟨cc, hcc⟩ := own_typed hi b e; exact ⟨cc, 3, hcc, by decide, by decide⟩)); clear ho hb hg hat))
            go_roundg k1
            case measure => have := HK.out; omega
            case rel => exact ⟨_, piv ++ [col], at_ + 1, col + 1, rc, rfl, by first | rfl | simp [hw2], by first | rfl | simp [hw1], ⟨by omega, by omega, by omega⟩, H', ⟨by have := HK.out; omega⟩, HP5, HR5, HB5⟩
      · rw [if_neg hlt] at H
        obtain ⟨rfl, rfl⟩ : rs = r ∧ piv = p := by simpa using H
        clear H
        go_wp2
        try rw [Exit.noGoto_ret]
        go_ret
        exact ⟨_, rfl, HP.out, HR.out, HB.out⟩

end Go.Proofs.YtndnedjclbigiaaDoor

namespace Go.Proofs.YtndnedjclbigiaaDoor
open Go.RowKit Go.Proofs.YtndnedjclbigiaaDoorW.PrintWords Go.Proofs.YtndnedjclbigiaaDoorW.PrintLast Go.Proofs.YtndnedjclbigiaaDoorW.PrintMore
attribute [local go_sem] max2_int min2_int max_two min_two max_three min_three max_four min_four   -- for this text's walks alone
set_option linter.unusedVariables false
set_option linter.unusedSimpArgs false
set_option linter.unusedSectionVars false
set_option linter.unusedSimpArgs false
set_option linter.unusedVariables false
variable [Errs]

theorem ginfo5 : (Tryd.prog.info? 5).map (fun i => (i.zero, i.size, i.bytes)) = some (some (.int .u8 0), 1, 1) := by kernel_rfl
/-! ### slices_Clone_byte_byte: function 44 -/
def slices_Clone_byte_byte.f (l0 : List Int) : Option (List Int) := (some (([] : List Int) : List Int)).bind fun y101 => (if y101.length + l0.length < 140737488355328 then (some (y101 ++ l0)) else (none))
set_option maxHeartbeats 8000000 in
set_option maxRecDepth 100000 in
theorem slices_Clone_byte_byte.calls_some (A0_ : Addr) (c0 : Nat) (l0 : List Int) (r : List Int) (w : World) (hr0 : Kd.C (Kd.int .u8) w (some A0_) l0.length l0) (hc0 : l0.length ≤ c0) (h : slices_Clone_byte_byte.f l0 = some r) :
    Calls Tryd.prog 73 #[.slice (some A0_) l0.length c0] w fun e w' => ∃ v0_ : Value, e = .returned (v0_) ∧ Kd.R (Kd.int .u8) 5 w' w.heap.size (fun _ => True) v0_ r ∧ Below w.heap.size w w' := by
  have hnil := fun (W : World) (a : Option Addr) (n c : Nat) => Lib.run_eql_slice_nil (P := Tryd.prog) W 41 5 a n c 0 0 Tryd.underlying41
  have HR0 := Aside0.mk hr0
  have HC0 := Aside0.mk hc0
  clear hr0 hc0
  have HB := Aside0.mk (Below.refl w.heap.size w)
  have H : ((some (([] : List Int) : List Int)).bind fun y101 => (if y101.length + l0.length < 140737488355328 then (some (y101 ++ l0)) else (none))) = some r := h
  clear h
  obtain ⟨y101, hy101⟩ : ∃ y_ : List Int, y_ = (([] : List Int)) := ⟨_, rfl⟩
  replace H : (if y101.length + l0.length < 140737488355328 then (some (y101 ++ l0)) else (none)) = some r := by first | (rw [hy101]; with_reducible exact H) | (have H2_ := (Option.bind_some _ _).symm.trans H; rw [hy101]; with_reducible exact H2_) | (have H2_ := (Option.bind_some _ _).symm.trans H; with_reducible exact H2_) | with_reducible exact H | (rw [hy101]; exact H) | exact H
  have Ny101 := Aside0.mk hy101
  clear hy101
  by_cases c2 : y101.length + l0.length < 140737488355328
  · rw [if_pos c2] at H
    have LMc2 := Aside0.mk c2
    clear c2
    obtain ⟨y104, hy104⟩ : ∃ y_ : List Int, y_ = (y101 ++ l0) := ⟨_, rfl⟩
    replace H : (some y104) = some r := by first | (rw [hy104]; with_reducible exact H) | (have H2_ := (Option.bind_some _ _).symm.trans H; rw [hy104]; with_reducible exact H2_) | (have H2_ := (Option.bind_some _ _).symm.trans H; with_reducible exact H2_) | with_reducible exact H | (rw [hy104]; exact H) | exact H
    have Ny104 := Aside0.mk hy104
    clear hy104
    obtain rfl := Option.some.inj H
    go_enter Tryd.func73, Tryd.ntmps73
    go_wp2_with (first | ((with_reducible refine gate_dst (N := 5) rfl ?_); refine Kd.R_lit (Kd.int .u8) _ 5 ?hg (N := 5) ?hd (xs := ([] : List Int)) (inner := []) (ok := fun _ => True) (okp := fun _ => True) ?hr ?hp (fun _ hk => hk) trivial (Below.refl _ _) (Nat.le_refl _) (by simp) ?_; (case hd => rfl); (case hg => rfl); (case hr => first | (go_simp; done) | (go_simp; rfl)); (case hp => exact (Reps.none _ _)); intro v102 w3 ho4 hb hg_ hnew_; clear hg_ hnew_; (first | rw [← Ny101.out] at ho4 | (simp only [Int.reduceToNat] at ho4; rw [← Ny101.out] at ho4)); have n0_ := Aside0.mk (Kd.R_lower ho4 (below_size (by repeat (first | (with_reducible first | exact HB.out | apply below_alloc | apply pw_below_drewN | apply below_drew1) | exact HB.out)))); have n1_ := Aside0.mk (below_step (by repeat (first | (with_reducible first | exact HB.out | apply below_alloc | apply pw_below_drewN | apply below_drew1) | exact HB.out)) hb); clear HB; have HO103 := n0_; have HB := n1_; clear n0_ n1_; clear hb ho4) | ((with_reducible refine gate_builtin (b := .append) (xs := #[.tmp 5, .tmp 6]) rfl ?_); at_builtin; refine Kd.R_append_rows (Kd.int .u8) (w0 := w) w.heap.size rfl (.tmp 5) (.tmp 6) 41 5 (.int .u8 0) 1 rfl Tryd.underlying41 ginfo5 rfl (by decide) (by omega) v102 y101 l0 _ _ _ (fun _ => True) (fun _ => False) rfl rfl ?aO ?aR (fun _ _ h => h) (fun _ h => h.elim) ?aF ?aB ?aS ?aL ?_; (case aR => repeat (first | exact (Kd.C_below HR0.out HB.out) | (with_reducible refine Kd.C_alloc ?_ _) | (with_reducible refine Kd.C_drewN ?_ _) | (with_reducible refine Kd.C_drew ?_))); (case aB => exact (by repeat (first | (with_reducible first | exact HB.out | apply below_alloc | apply pw_below_drewN | apply below_drew1) | exact HB.out))); (case aF => exact (fun _ _ => trivial)); (case aO => exact (by (with_reducible repeat (first | apply Kd.R_alloc | apply Kd.R_drewN | apply Kd.R_drew)); exact HO103.out)); (case aS => exact (below_size (by repeat (first | (with_reducible first | exact HB.out | apply below_alloc | apply pw_below_drewN | apply below_drew1) | exact HB.out)))); (case aL => have := LMc2.out; omega); intro v105 w5 ho hb hg hat; rw [← Ny104.out] at ho; have n0_ := Aside0.mk (hb); have n1_ := Aside0.mk (ho); clear HB; clear HO103; have HB := n0_; have HO106 := n1_; clear n0_ n1_; clear ho hb hg hat))
    go_ret
    exact ⟨_, by first | rfl | (simp [errW_none, errW_some] <;> rfl) | (simp [*, errW_none, errW_some] <;> rfl), by (with_reducible repeat (first | apply Kd.R_alloc | apply Kd.R_drewN | apply Kd.R_drew)); exact HO106.out, by repeat (first | (with_reducible first | exact HB.out | apply below_alloc | apply pw_below_drewN | apply below_drew1) | exact HB.out)⟩
  · rw [if_neg c2] at H
    exact absurd H (by simp)


theorem slices_Clone_byte_byte.calls (A0 : Option Addr) (c0 : Nat) (l0 : List Int) (r : List Int) (w : World) (hr0 : Kd.C (Kd.int .u8) w A0 l0.length l0) (hc0 : l0.length ≤ c0) (h : slices_Clone_byte_byte.f l0 = some r) :
    Calls Tryd.prog 73 #[.slice A0 l0.length c0] w fun e w' => ∃ v0_ : Value, e = .returned (v0_) ∧ Kd.R (Kd.int .u8) 5 w' w.heap.size (fun _ => True) v0_ r ∧ Below w.heap.size w w' := by
  cases A0 with
  | some ad => exact slices_Clone_byte_byte.calls_some ad c0 l0 r w hr0 hc0 h
  | none =>
    have hl : l0.length = 0 := by
      rcases Nat.eq_zero_or_pos l0.length with h0 | h0
      · exact h0
      · obtain ⟨ad, e, _⟩ := hr0.2.2 h0; cases e
    have hl0 : l0 = [] := List.eq_nil_of_length_eq_zero hl
    subst hl0
    obtain rfl : [] = r := Option.some.inj h
    clear h hr0 hc0 hl
    have hnil := fun (W : World) (a : Option Addr) (n c : Nat) => Lib.run_eql_slice_nil (P := Tryd.prog) W 41 5 a n c 0 0 Tryd.underlying41
    go_enter Tryd.func73, Tryd.ntmps73
    go_wp2
    go_ret
    exact ⟨_, rfl, Kd.R_nil _ _ _ _ _, Below.refl _ _⟩
end Go.Proofs.YtndnedjclbigiaaDoor

namespace Go.Proofs.YtndnedjclbigiaaDoor.F
open Go.RowKit Go.Proofs.YtndnedjclbigiaaDoorW.PrintWords Go.Proofs.YtndnedjclbigiaaDoorW.PrintLast Go.Proofs.YtndnedjclbigiaaDoorW.PrintMore
attribute [local go_sem] max2_int min2_int max_two min_two max_three min_three max_four min_four   -- for this text's walks alone
set_option linter.unusedVariables false
set_option linter.unusedSimpArgs false
set_option linter.unusedSectionVars false
open Go.Proofs.YtndnedjclbigiaaDoor
variable [Errs]

/-! ### mat_Check: function 27 -/
def mat_Check.L : List Int := [2]
def mat_Check.f (a0_0 : Int) (a0_1 : Int) (l0_2 : List Int) : Option (Option Int) := (mat_sized.f a0_0).bind fun t300 => (if t300 = true then ((mat_sized.f a0_1).bind fun t301 => (if t301 = true then (if (l0_2.length : Int) = (wrap64 (a0_0 * a0_1)) then (some none) else (some (some 2))) else (some (some 2)))) else (some (some 2)))
set_option maxHeartbeats 8000000 in
set_option maxRecDepth 100000 in
theorem mat_Check.calls (a0_0 : Int) (a0_1 : Int) (A0_2 : Option Addr) (c0_2 : Nat) (l0_2 : List Int) (r : Option Int) (w : World) (hr0_2 : Kd.C (Kd.int .u8) w A0_2 l0_2.length l0_2) (hc0_2 : l0_2.length ≤ c0_2) (h : mat_Check.f a0_0 a0_1 l0_2 = some r) (hS : Sent mat_Check.L w) :
    Calls Tryd.prog 27 #[.agg #[.int .i64 a0_0, .int .i64 a0_1, .slice A0_2 l0_2.length c0_2]] w fun e w' => e = .returned (errW r) ∧ Below w.heap.size w w' := by
  have hu43 := Tryd.underlying43
  have HR0_2 := Aside0.mk hr0_2
  have HC0_2 := Aside0.mk hc0_2
  clear hr0_2 hc0_2
  have HB := Aside0.mk (Below.refl w.heap.size w)
  have HS := Aside0.mk hS
  have hgl2 := Sent.cell hS 2 0 rfl (by decide)
  simp only [errW_some] at hgl2
  have hglw2 := Sent.cell0 hS 2 0 rfl (by decide)
  simp only [errW_some] at hglw2
  clear hS
  have H : ((mat_sized.f a0_0).bind fun t300 => (if t300 = true then ((mat_sized.f a0_1).bind fun t301 => (if t301 = true then (if (l0_2.length : Int) = (wrap64 (a0_0 * a0_1)) then (some none) else (some (some 2))) else (some (some 2)))) else (some (some 2)))) = some r := h
  clear h
  replace H := Option.bind_eq_some_iff.mp H
  obtain ⟨t300, A20, H⟩ := H
  replace H : (if t300 = true then ((mat_sized.f a0_1).bind fun t301 => (if t301 = true then (if (l0_2.length : Int) = (wrap64 (a0_0 * a0_1)) then (some none) else (some (some 2))) else (some (some 2)))) else (some (some 2))) = some r := H
  have A2 := Aside0.mk A20
  clear A20
  by_cases c3 : t300 = true
  · subst c3
    have H1 : ((mat_sized.f a0_1).bind fun t301 => (if t301 = true then (if (l0_2.length : Int) = (wrap64 (a0_0 * a0_1)) then (some none) else (some (some 2))) else (some (some 2)))) = some r := by rw [if_pos rfl] at H; exact H
    clear H
    have H := H1
    clear H1
    replace H := Option.bind_eq_some_iff.mp H
    obtain ⟨t301, A40, H⟩ := H
    replace H : (if t301 = true then (if (l0_2.length : Int) = (wrap64 (a0_0 * a0_1)) then (some none) else (some (some 2))) else (some (some 2))) = some r := H
    have A4 := Aside0.mk A40
    clear A40
    by_cases c5 : t301 = true
    · subst c5
      have H1 : (if (l0_2.length : Int) = (wrap64 (a0_0 * a0_1)) then (some none) else (some (some 2))) = some r := by rw [if_pos rfl] at H; exact H
      clear H
      have H := H1
      clear H1
      by_cases c6 : (l0_2.length : Int) = (wrap64 (a0_0 * a0_1))
      · rw [if_pos c6] at H
        have c6b0 : ((l0_2.length : Int) == (wrap64 (a0_0 * a0_1))) = true := beq_iff_eq.mpr c6
        have c6b1 : ((l0_2.length : Int) != (wrap64 (a0_0 * a0_1))) = false := bne_eq_false_iff_eq.mpr c6
        clear c6
        obtain rfl := Option.some.inj H
        go_enter Tryd.func27, Tryd.ntmps27
        go_wp2_with (first | ((with_reducible refine gate_dst (N := 1) rfl ?_); (try (refine gate_guard (by rfl) ?_; dsimp only)); refine box_event ?hg (N := 1) ?hd (cs := #[.int .i64 a0_0, .int .i64 a0_1, .slice A0_2 l0_2.length c0_2]) (t := 43) ?hr ?_; (case hd => rfl); (case hg => rfl); (case hr => first | (go_simp; done) | (go_simp; rfl)); intro gb299 hg w7 hbox hb; have n0_ := Aside0.mk (below_step (by repeat (first | (with_reducible first | exact HB.out | apply below_alloc | apply pw_below_drewN | apply below_drew1) | exact HB.out)) hb); have n1_ := Aside0.mk (hbox); have n2_ := Aside0.mk ((by rw [hg]; exact (below_size (by repeat (first | (with_reducible first | exact HB.out | apply below_alloc | apply pw_below_drewN | apply below_drew1) | exact HB.out))) : w.heap.size ≤ gb299)); have n3_ := Aside0.mk ((by rw [hg]; exact (below_size (by repeat (first | (with_reducible first | exact HB.out | apply below_alloc | apply pw_below_drewN | apply below_drew1) | exact HB.out))) : w.heap.size ≤ gb299)); clear HB; have HB := n0_; have BK299 := n1_; have GW299 := n2_; have GE299 := n3_; clear n0_ n1_ n2_ n3_; clear hb hbox hg; have hcz8_0 : w7.cell? ⟨gb299, 0, none⟩ = some (.int .i64 a0_0) := (blk_cell BK299.out 0).trans rfl; have hcz8_1 : w7.cell? ⟨gb299, 1, none⟩ = some (.int .i64 a0_1) := (blk_cell BK299.out 1).trans rfl; have hcz8_2 : w7.cell? ⟨gb299, 2, none⟩ = some (.slice A0_2 l0_2.length c0_2) := (blk_cell BK299.out 2).trans rfl; have hfz8_0 := blk_frozen BK299.out 0; have hfz8_1 := blk_frozen BK299.out 1; have hfz8_2 := blk_frozen BK299.out 2) | ((with_reducible refine gate_callee (f := 41) rfl ?_); refine goesL_ (some 5) rfl rfl Tryd.func41 (by kernel_rfl) rfl #[.int .i64 a0_0] rfl (by (try simp only [List.map_toArray, List.map_cons, List.map_nil]); first | done | rfl | (simp only [List.length_drop, List.length_take]; rfl)) ?_; (with_reducible refine (mat_sized.calls a0_0 true _ A2.out).mono ?_); rintro e w' ⟨rfl, ⟨nd, rfl⟩⟩; refine ⟨_, rfl, ?_⟩) | (go_at_call 41; (with_reducible refine (mat_sized.calls a0_1 true _ A4.out).mono ?_); rintro e w' ⟨rfl, ⟨nd, rfl⟩⟩))
        go_ret
        exact ⟨by first | rfl | (simp [errW_none, errW_some] <;> rfl) | (simp [*, errW_none, errW_some] <;> rfl), by repeat (first | (with_reducible first | exact HB.out | apply below_alloc | apply pw_below_drewN | apply below_drew1 | refine below_set ?_ GE299.out) | exact HB.out)⟩
      · rw [if_neg c6] at H
        have c6b0 : ((l0_2.length : Int) == (wrap64 (a0_0 * a0_1))) = false := beq_eq_false_iff_ne.mpr c6
        have c6b1 : ((l0_2.length : Int) != (wrap64 (a0_0 * a0_1))) = true := bne_iff_ne.mpr c6
        obtain rfl := Option.some.inj H
        go_enter Tryd.func27, Tryd.ntmps27
        go_wp2_with (first | ((with_reducible refine gate_dst (N := 1) rfl ?_); (try (refine gate_guard (by rfl) ?_; dsimp only)); refine box_event ?hg (N := 1) ?hd (cs := #[.int .i64 a0_0, .int .i64 a0_1, .slice A0_2 l0_2.length c0_2]) (t := 43) ?hr ?_; (case hd => rfl); (case hg => rfl); (case hr => first | (go_simp; done) | (go_simp; rfl)); intro gb299 hg w9 hbox hb; have n0_ := Aside0.mk (below_step (by repeat (first | (with_reducible first | exact HB.out | apply below_alloc | apply pw_below_drewN | apply below_drew1) | exact HB.out)) hb); have n1_ := Aside0.mk (hbox); have n2_ := Aside0.mk ((by rw [hg]; exact (below_size (by repeat (first | (with_reducible first | exact HB.out | apply below_alloc | apply pw_below_drewN | apply below_drew1) | exact HB.out))) : w.heap.size ≤ gb299)); have n3_ := Aside0.mk ((by rw [hg]; exact (below_size (by repeat (first | (with_reducible first | exact HB.out | apply below_alloc | apply pw_below_drewN | apply below_drew1) | exact HB.out))) : w.heap.size ≤ gb299)); clear HB; have HB := n0_; have BK299 := n1_; have GW299 := n2_; have GE299 := n3_; clear n0_ n1_ n2_ n3_; clear hb hbox hg; have hcz10_0 : w9.cell? ⟨gb299, 0, none⟩ = some (.int .i64 a0_0) := (blk_cell BK299.out 0).trans rfl; have hcz10_1 : w9.cell? ⟨gb299, 1, none⟩ = some (.int .i64 a0_1) := (blk_cell BK299.out 1).trans rfl; have hcz10_2 : w9.cell? ⟨gb299, 2, none⟩ = some (.slice A0_2 l0_2.length c0_2) := (blk_cell BK299.out 2).trans rfl; have hfz10_0 := blk_frozen BK299.out 0; have hfz10_1 := blk_frozen BK299.out 1; have hfz10_2 := blk_frozen BK299.out 2) | ((with_reducible refine gate_callee (f := 41) rfl ?_); refine goesL_ (some 5) rfl rfl Tryd.func41 (by kernel_rfl) rfl #[.int .i64 a0_0] rfl (by (try simp only [List.map_toArray, List.map_cons, List.map_nil]); first | done | rfl | (simp only [List.length_drop, List.length_take]; rfl)) ?_; (with_reducible refine (mat_sized.calls a0_0 true _ A2.out).mono ?_); rintro e w' ⟨rfl, ⟨nd, rfl⟩⟩; refine ⟨_, rfl, ?_⟩) | (go_at_call 41; (with_reducible refine (mat_sized.calls a0_1 true _ A4.out).mono ?_); rintro e w' ⟨rfl, ⟨nd, rfl⟩⟩))
        go_ret
        exact ⟨by first | rfl | (simp [errW_none, errW_some] <;> rfl) | (simp [*, errW_none, errW_some] <;> rfl), by repeat (first | (with_reducible first | exact HB.out | apply below_alloc | apply pw_below_drewN | apply below_drew1 | refine below_set ?_ GE299.out) | exact HB.out)⟩
    · replace c5 := Bool.eq_false_iff.mpr c5
      subst c5
      have H1 : (some (some 2)) = some r := by rw [if_neg (show ¬ (false = true) by decide)] at H; exact H
      clear H
      have H := H1
      clear H1
      obtain rfl := Option.some.inj H
      go_enter Tryd.func27, Tryd.ntmps27
      go_wp2_with (first | ((with_reducible refine gate_dst (N := 1) rfl ?_); (try (refine gate_guard (by rfl) ?_; dsimp only)); refine box_event ?hg (N := 1) ?hd (cs := #[.int .i64 a0_0, .int .i64 a0_1, .slice A0_2 l0_2.length c0_2]) (t := 43) ?hr ?_; (case hd => rfl); (case hg => rfl); (case hr => first | (go_simp; done) | (go_simp; rfl)); intro gb299 hg w11 hbox hb; have n0_ := Aside0.mk (below_step (by repeat (first | (with_reducible first | exact HB.out | apply below_alloc | apply pw_below_drewN | apply below_drew1) | exact HB.out)) hb); have n1_ := Aside0.mk (hbox); have n2_ := Aside0.mk ((by rw [hg]; exact (below_size (by repeat (first | (with_reducible first | exact HB.out | apply below_alloc | apply pw_below_drewN | apply below_drew1) | exact HB.out))) : w.heap.size ≤ gb299)); have n3_ := Aside0.mk ((by rw [hg]; exact (below_size (by repeat (first | (with_reducible first | exact HB.out | apply below_alloc | apply pw_below_drewN | apply below_drew1) | exact HB.out))) : w.heap.size ≤ gb299)); clear HB; have HB := n0_; have BK299 := n1_; have GW299 := n2_; have GE299 := n3_; clear n0_ n1_ n2_ n3_; clear hb hbox hg; have hcz12_0 : w11.cell? ⟨gb299, 0, none⟩ = some (.int .i64 a0_0) := (blk_cell BK299.out 0).trans rfl; have hcz12_1 : w11.cell? ⟨gb299, 1, none⟩ = some (.int .i64 a0_1) := (blk_cell BK299.out 1).trans rfl; have hcz12_2 : w11.cell? ⟨gb299, 2, none⟩ = some (.slice A0_2 l0_2.length c0_2) := (blk_cell BK299.out 2).trans rfl; have hfz12_0 := blk_frozen BK299.out 0; have hfz12_1 := blk_frozen BK299.out 1; have hfz12_2 := blk_frozen BK299.out 2) | ((with_reducible refine gate_callee (f := 41) rfl ?_); refine goesL_ (some 5) rfl rfl Tryd.func41 (by kernel_rfl) rfl #[.int .i64 a0_0] rfl (by (try simp only [List.map_toArray, List.map_cons, List.map_nil]); first | done | rfl | (simp only [List.length_drop, List.length_take]; rfl)) ?_; (with_reducible refine (mat_sized.calls a0_0 true _ A2.out).mono ?_); rintro e w' ⟨rfl, ⟨nd, rfl⟩⟩; refine ⟨_, rfl, ?_⟩) | (go_at_call 41; (with_reducible refine (mat_sized.calls a0_1 false _ A4.out).mono ?_); rintro e w' ⟨rfl, ⟨nd, rfl⟩⟩))
      go_ret
      exact ⟨by first | rfl | (simp [errW_none, errW_some] <;> rfl) | (simp [*, errW_none, errW_some] <;> rfl), by repeat (first | (with_reducible first | exact HB.out | apply below_alloc | apply pw_below_drewN | apply below_drew1 | refine below_set ?_ GE299.out) | exact HB.out)⟩
  · replace c3 := Bool.eq_false_iff.mpr c3
    subst c3
    have H1 : (some (some 2)) = some r := by rw [if_neg (show ¬ (false = true) by decide)] at H; exact H
    clear H
    have H := H1
    clear H1
    obtain rfl := Option.some.inj H
    go_enter Tryd.func27, Tryd.ntmps27
    go_wp2_with (first | ((with_reducible refine gate_dst (N := 1) rfl ?_); (try (refine gate_guard (by rfl) ?_; dsimp only)); refine box_event ?hg (N := 1) ?hd (cs := #[.int .i64 a0_0, .int .i64 a0_1, .slice A0_2 l0_2.length c0_2]) (t := 43) ?hr ?_; (case hd => rfl); (case hg => rfl); (case hr => first | (go_simp; done) | (go_simp; rfl)); intro gb299 hg w13 hbox hb; have n0_ := Aside0.mk (below_step (by repeat (first | (with_reducible first | exact HB.out | apply below_alloc | apply pw_below_drewN | apply below_drew1) | exact HB.out)) hb); have n1_ := Aside0.mk (hbox); have n2_ := Aside0.mk ((by rw [hg]; exact (below_size (by repeat (first | (with_reducible first | exact HB.out | apply below_alloc | apply pw_below_drewN | apply below_drew1) | exact HB.out))) : w.heap.size ≤ gb299)); have n3_ := Aside0.mk ((by rw [hg]; exact (below_size (by repeat (first | (with_reducible first | exact HB.out | apply below_alloc | apply pw_below_drewN | apply below_drew1) | exact HB.out))) : w.heap.size ≤ gb299)); clear HB; have HB := n0_; have BK299 := n1_; have GW299 := n2_; have GE299 := n3_; clear n0_ n1_ n2_ n3_; clear hb hbox hg; have hcz14_0 : w13.cell? ⟨gb299, 0, none⟩ = some (.int .i64 a0_0) := (blk_cell BK299.out 0).trans rfl; have hcz14_1 : w13.cell? ⟨gb299, 1, none⟩ = some (.int .i64 a0_1) := (blk_cell BK299.out 1).trans rfl; have hcz14_2 : w13.cell? ⟨gb299, 2, none⟩ = some (.slice A0_2 l0_2.length c0_2) := (blk_cell BK299.out 2).trans rfl; have hfz14_0 := blk_frozen BK299.out 0; have hfz14_1 := blk_frozen BK299.out 1; have hfz14_2 := blk_frozen BK299.out 2) | ((with_reducible refine gate_callee (f := 41) rfl ?_); refine goesL_ (some 5) rfl rfl Tryd.func41 (by kernel_rfl) rfl #[.int .i64 a0_0] rfl (by (try simp only [List.map_toArray, List.map_cons, List.map_nil]); first | done | rfl | (simp only [List.length_drop, List.length_take]; rfl)) ?_; (with_reducible refine (mat_sized.calls a0_0 false _ A2.out).mono ?_); rintro e w' ⟨rfl, ⟨nd, rfl⟩⟩; refine ⟨_, rfl, ?_⟩))
    go_ret
    exact ⟨by first | rfl | (simp [errW_none, errW_some] <;> rfl) | (simp [*, errW_none, errW_some] <;> rfl), by repeat (first | (with_reducible first | exact HB.out | apply below_alloc | apply pw_below_drewN | apply below_drew1 | refine below_set ?_ GE299.out) | exact HB.out)⟩

end Go.Proofs.YtndnedjclbigiaaDoor.F

namespace Go.Proofs.YtndnedjclbigiaaDoor
open Go.RowKit Go.Proofs.YtndnedjclbigiaaDoorW.PrintWords Go.Proofs.YtndnedjclbigiaaDoorW.PrintLast Go.Proofs.YtndnedjclbigiaaDoorW.PrintMore
open Go.Proofs.YtndnedjclbigiaaDoor.F
set_option linter.unusedVariables false
set_option linter.unusedSectionVars false
set_option linter.unusedSimpArgs false
set_option linter.unusedVariables false
variable [Errs]

/-- A cut of what reads as a list reads as the list's part. -/
theorem C_cut {k : IntKind} {w : World} {ad : Addr} {n : Nat} {xs : List Int} (h : (Kd.int k).C w (some ad) n xs) (p q : Nat) (hpq : p ≤ q) (hq : q ≤ n) :
    (Kd.int k).C w (some (ad.add p)) (q - p) ((xs.drop p).take (q - p)) := by
  obtain ⟨hl, hm, hc⟩ := h
  refine ⟨by rw [List.length_take, List.length_drop]; omega, by omega, fun hn => ?_⟩
  obtain ⟨ad', e, hx⟩ := hc (by omega)
  cases e
  refine ⟨_, rfl, fun j x hj => ?_⟩
  have hjl : j < q - p := by
    have := (List.getElem?_eq_some_iff.1 hj).1
    rw [List.length_take] at this
    omega
  have hj' : xs[p + j]? = some x := by
    rw [List.getElem?_take_of_lt hjl, List.getElem?_drop] at hj
    exact hj
  obtain ⟨c, hcs, hr, hcell⟩ := hx (p + j) x hj'
  refine ⟨c, hcs, hr, fun i u hu => ?_⟩
  have := hcell i u hu
  have e2 : (ad.add p).add (j * (Kd.int k).sz + i) = ad.add ((p + j) * (Kd.int k).sz + i) := by
    have hs : (Kd.int k).sz = 1 := rfl
    rw [hs, Addr.add_add]; congr 1; omega
  rw [e2]; exact this

theorem C_cut_nil {k : IntKind} {w : World} {A : Option Addr} : (Kd.int k).C w A 0 [] := ⟨rfl, by simp, fun h => absurd h (Nat.lt_irrefl 0)⟩

/-- What mat.line answers. -/
def LinePost (ad : Addr) (p q : Nat) (w : World) (e : Ending) (w' : World) : Prop :=
  (∃ A', e = .returned (.slice A' (q - p) (q - p)) ∧ (A' = some (ad.add p) ∨ q = p)) ∧ Below w.heap.size w w'
def LineNil (w : World) (e : Ending) (w' : World) : Prop := (∃ A' c', e = .returned (.slice A' 0 c')) ∧ Below w.heap.size w w'
/-- What a cut of a slice that came in is: its address, and that it reads as the part wherever the whole reads so. -/
def CutOf (k : IntKind) (A : Option Addr) (n : Nat) (xs : List Int) (p q : Nat) (A' : Option Addr) : Prop :=
  ∀ w : World, (Kd.int k).C w A n xs → (Kd.int k).C w A' (q - p) ((xs.drop p).take (q - p))

set_option maxHeartbeats 800000 in
set_option maxRecDepth 100000 in
theorem mat_line_some (m0 m1 : Int) (ad : Addr) (n c : Nat) (i p q : Int) (w : World) (hp : wrap64 (i * m1) = p) (hq : wrap64 (wrap64 (i + 1) * m1) = q) (h0 : 0 ≤ p) (h1 : p ≤ q) (h2 : q ≤ (c : Int)) :
    Calls Tryd.prog 28 #[.agg #[.int .i64 m0, .int .i64 m1, .slice (some ad) n c], .int .i64 i] w (LinePost ad p.toNat q.toNat w) := by
  have hu43 := Tryd.underlying43
  go_enter Tryd.func28, Tryd.ntmps28
  go_wp2
  · rename_i h
    go_ret
    exact ⟨⟨some ad, by rw [Nat.sub_self]; rfl, .inr rfl⟩, (Below.refl _ _).alloc (Nat.le_refl _) _⟩
  · go_ret
    exact ⟨⟨_, rfl, .inl rfl⟩, (Below.refl _ _).alloc (Nat.le_refl _) _⟩

set_option maxHeartbeats 800000 in
set_option maxRecDepth 100000 in
theorem mat_line_none (m0 m1 : Int) (n c : Nat) (i : Int) (w : World) (hp : wrap64 (i * m1) = 0) (hq : wrap64 (wrap64 (i + 1) * m1) = 0) :
    Calls Tryd.prog 28 #[.agg #[.int .i64 m0, .int .i64 m1, .slice none n c], .int .i64 i] w (LineNil w) := by
  have hu43 := Tryd.underlying43
  go_enter Tryd.func28, Tryd.ntmps28
  go_wp2
  go_ret
  exact ⟨⟨_, _, rfl⟩, (Below.refl _ _).alloc (Nat.le_refl _) _⟩

def mat_Row.L : List Int := [2, 12]
def mat_Row.f (m0 m1 : Int) (l : List Int) (a1 : Int) : Option (List Int × Option Int) :=
  (mat_Check.f m0 m1 l).bind fun t => if t.isNone = true then (if a1 < 0 then some ([], some 12) else if a1 ≥ m0 then some ([], some 12) else some ((l.drop (a1 * m1).toNat).take m1.toNat, none)) else some ([], some (t.getD 0))

omit [Errs] in
theorem mat_Check_none {m0 m1 : Int} {l : List Int} (h : mat_Check.f m0 m1 l = some none) : 0 ≤ m0 ∧ m0 ≤ 64 ∧ 0 ≤ m1 ∧ m1 ≤ 64 ∧ (l.length : Int) = m0 * m1 := by
  unfold mat_Check.f mat_sized.f at h
  by_cases h0 : m0 ≥ 0
  · by_cases h1 : m1 ≥ 0
    · by_cases h2 : m0 ≤ 64
      · by_cases h3 : m1 ≤ 64
        · simp [h0, h1, h2, h3] at h
          have b0 : 0 ≤ m0 * m1 := Int.mul_nonneg h0 h1
          have b1 : m0 * m1 ≤ 64 * 64 := Int.mul_le_mul h2 h3 h1 (by omega)
          have : wrap64 (m0 * m1) = m0 * m1 := by unfold wrap64; omega
          rw [this] at h
          exact ⟨h0, h2, h1, h3, h⟩
        · simp [h0, h1, h2, h3] at h
      · simp [h0, h2] at h
    · by_cases h2 : m0 ≤ 64 <;> simp [h0, h1, h2] at h
  · simp [h0] at h

/-- The call of mat.line within a matrix in form. -/
theorem mat_line_in {m0 m1 : Int} {A : Option Addr} {c : Nat} {l : List Int} {i : Int} {w : World} (hr : Kd.C (Kd.int .u8) w A l.length l) (hc : l.length ≤ c)
    (hf : 0 ≤ m0 ∧ m0 ≤ 64 ∧ 0 ≤ m1 ∧ m1 ≤ 64 ∧ (l.length : Int) = m0 * m1) (h0 : 0 ≤ i) (h1 : i < m0) :
    Calls Tryd.prog 28 #[.agg #[.int .i64 m0, .int .i64 m1, .slice A l.length c], .int .i64 i] w (fun e w' =>
      (∃ A' c', m1.toNat ≤ c' ∧ e = .returned (.slice A' m1.toNat c') ∧ CutOf .u8 A l.length l (i * m1).toNat ((i * m1).toNat + m1.toNat) A') ∧ Below w.heap.size w w') := by
  obtain ⟨a0, a1, a2, a3, a4⟩ := hf
  have b0 : 0 ≤ i * m1 := Int.mul_nonneg h0 a2
  have b1 : i * m1 ≤ 63 * 64 := Int.mul_le_mul (by omega) a3 a2 (by omega)
  have b2 : (i + 1) * m1 = i * m1 + m1 := by rw [Int.add_mul]; omega
  have b3 : (i + 1) * m1 ≤ m0 * m1 := Int.mul_le_mul_of_nonneg_right (by omega) a2
  have w1 : wrap64 (i + 1) = i + 1 := by unfold wrap64; omega
  have w2 : wrap64 (i * m1) = i * m1 := by unfold wrap64; omega
  have w3 : wrap64 (wrap64 (i + 1) * m1) = i * m1 + m1 := by rw [w1, b2]; unfold wrap64; omega
  cases A with
  | some ad =>
    refine (mat_line_some m0 m1 ad l.length c i (i * m1) (i * m1 + m1) w w2 w3 b0 (by omega) (by omega)).mono ?_
    rintro e w' ⟨⟨A', rfl, hA⟩, hb⟩
    have e1 : (i * m1 + m1).toNat = (i * m1).toNat + m1.toNat := by omega
    rw [e1, Nat.add_sub_cancel_left]
    refine ⟨⟨A', _, Nat.le_refl _, rfl, fun W hW => ?_⟩, hb⟩
    rcases hA with rfl | hz
    · exact C_cut hW _ _ (by omega) (by omega)
    · have hz' : m1.toNat = 0 := by omega
      rw [hz', Nat.add_zero, Nat.sub_self, List.take_zero]
      exact C_cut_nil
  | none =>
    have hl : l.length = 0 := by
      rcases Nat.eq_zero_or_pos l.length with h | h
      · exact h
      · obtain ⟨ad, e, _⟩ := hr.2.2 h; cases e
    have z1 : m1 = 0 := by
      rcases Int.lt_or_le 0 m1 with h | h
      · have : 0 < m0 * m1 := Int.mul_pos (by omega) h
        omega
      · omega
    subst z1
    refine (mat_line_none m0 0 l.length c i w (by rw [w2]; simp) (by rw [w3]; simp)).mono ?_
    rintro e w' ⟨⟨A', c', rfl⟩, hb⟩
    exact ⟨⟨A', c', by simp, rfl, fun W _ => by simpa using C_cut_nil⟩, hb⟩

def RowPost (w : World) (r1 : List Int) (r2 : Option Int) (e : Ending) (w' : World) : Prop :=
  ∃ v0_ : Value, e = .returned (.tuple #[v0_, errW r2]) ∧ Kd.R (Kd.int .u8) 5 w' w.heap.size (fun _ => True) v0_ r1 ∧ Below w.heap.size w w'

set_option maxHeartbeats 1600000 in
set_option maxRecDepth 100000 in
theorem mat_Row.calls (a0_0 : Int) (a0_1 : Int) (A0_2 : Option Addr) (c0_2 : Nat) (l0_2 : List Int) (a1 : Int) (r1 : List Int) (r2 : Option Int) (w : World) (hr0_2 : Kd.C (Kd.int .u8) w A0_2 l0_2.length l0_2) (hc0_2 : l0_2.length ≤ c0_2) (h : mat_Row.f a0_0 a0_1 l0_2 a1 = some (r1, r2)) (hS : Sent mat_Row.L w) :
    Calls Tryd.prog 60 #[.agg #[.int .i64 a0_0, .int .i64 a0_1, .slice A0_2 l0_2.length c0_2], .int .i64 a1] w (RowPost w r1 r2) := by
  have hu43 := Tryd.underlying43
  have hu27 := Tryd.underlying30
  have HR := Aside0.mk hr0_2
  have HC := Aside0.mk hc0_2
  have HS := Aside0.mk hS
  have hgl2 := Sent.cell hS 12 1 rfl (by decide)
  simp only [errW_some] at hgl2
  clear hr0_2 hc0_2 hS
  unfold mat_Row.f at h
  obtain ⟨t, hA, h⟩ := Option.bind_eq_some_iff.mp h
  have A1 := Aside0.mk hA
  clear hA
  cases t with
  | some c =>
    rw [if_neg (show ¬ (some c).isNone = true by simp)] at h
    obtain ⟨rfl, rfl⟩ : ([] : List Int) = r1 ∧ some c = r2 := by simpa using h
    clear h
    go_enter Tryd.func60, Tryd.ntmps60
    go_wp2_with (go_at_call 27; refine (mat_Check.calls a0_0 a0_1 _ _ l0_2 (some c) _ (Kd.C_alloc HR.out _) HC.out A1.out (Sent.sub (show ∀ c, c ∈ mat_Check.L → c ∈ mat_Row.L by decide) (HS.out.below ((Below.refl _ _).alloc (Nat.le_refl _) _)))).mono ?_; rintro e w1 ⟨rfl, hb⟩; have HB := Aside0.mk (below_step (below_alloc (Below.refl _ _) _) hb); clear hb; simp only [errW_some])
    go_ret2
    exact ⟨_, rfl, Kd.R_nil _ _ _ _ _, HB.out⟩
  | none =>
    rw [if_pos (show (none : Option Int).isNone = true by rfl)] at h
    have hf := Aside0.mk (mat_Check_none A1.out)
    by_cases h0 : a1 < 0
    · rw [if_pos h0] at h
      obtain ⟨rfl, rfl⟩ : ([] : List Int) = r1 ∧ some 12 = r2 := by simpa using h
      clear h
      go_enter Tryd.func60, Tryd.ntmps60
      go_wp2_with (go_at_call 27; refine (mat_Check.calls a0_0 a0_1 _ _ l0_2 none _ (Kd.C_alloc HR.out _) HC.out A1.out (Sent.sub (show ∀ c, c ∈ mat_Check.L → c ∈ mat_Row.L by decide) (HS.out.below ((Below.refl _ _).alloc (Nat.le_refl _) _)))).mono ?_; rintro e w1 ⟨rfl, hb⟩; have hblk := (hb.block w.heap.size (by simp)).trans (heap_alloc_new w _); have hc0 : w1.cell? ⟨w.heap.size, 0, none⟩ = some (.int .i64 a0_0) := (blk_cell hblk 0).trans rfl; have hc1 : w1.cell? ⟨w.heap.size, 1, none⟩ = some (.int .i64 a0_1) := (blk_cell hblk 1).trans rfl; have hc2 : w1.cell? ⟨w.heap.size, 2, none⟩ = some (.slice A0_2 l0_2.length c0_2) := (blk_cell hblk 2).trans rfl; clear hblk; have HB := Aside0.mk (below_step (below_alloc (Below.refl _ _) _) hb); have HB1 := Aside0.mk hb; clear hb; simp only [errW_none])
      go_quiet (fail)
      go_wp2
      go_ret2
      exact ⟨_, rfl, Kd.R_nil _ _ _ _ _, by repeat (first | exact HB.out | apply pw_below_drewN | apply below_drew1)⟩
    by_cases h1 : a1 ≥ a0_0
    · rw [if_neg h0, if_pos h1] at h
      obtain ⟨rfl, rfl⟩ : ([] : List Int) = r1 ∧ some 12 = r2 := by simpa using h
      clear h
      go_enter Tryd.func60, Tryd.ntmps60
      go_wp2_with (go_at_call 27; refine (mat_Check.calls a0_0 a0_1 _ _ l0_2 none _ (Kd.C_alloc HR.out _) HC.out A1.out (Sent.sub (show ∀ c, c ∈ mat_Check.L → c ∈ mat_Row.L by decide) (HS.out.below ((Below.refl _ _).alloc (Nat.le_refl _) _)))).mono ?_; rintro e w1 ⟨rfl, hb⟩; have hblk := (hb.block w.heap.size (by simp)).trans (heap_alloc_new w _); have hc0 : w1.cell? ⟨w.heap.size, 0, none⟩ = some (.int .i64 a0_0) := (blk_cell hblk 0).trans rfl; have hc1 : w1.cell? ⟨w.heap.size, 1, none⟩ = some (.int .i64 a0_1) := (blk_cell hblk 1).trans rfl; have hc2 : w1.cell? ⟨w.heap.size, 2, none⟩ = some (.slice A0_2 l0_2.length c0_2) := (blk_cell hblk 2).trans rfl; clear hblk; have HB := Aside0.mk (below_step (below_alloc (Below.refl _ _) _) hb); have HB1 := Aside0.mk hb; clear hb; simp only [errW_none])
      go_quiet (fail)
      go_wp2
      go_ret2
      exact ⟨_, rfl, Kd.R_nil _ _ _ _ _, by repeat (first | exact HB.out | apply pw_below_drewN | apply below_drew1)⟩
    · rw [if_neg h0, if_neg h1] at h
      obtain ⟨hr1, rfl⟩ : (l0_2.drop (a1 * a0_1).toNat).take a0_1.toNat = r1 ∧ none = r2 := by simpa using h
      clear h
      have hlen : r1.length = a0_1.toNat := by
        obtain ⟨b0, b1, b2, b3, b4⟩ := hf.out
        have c0 : 0 ≤ a1 * a0_1 := Int.mul_nonneg (by omega) b2
        have c1 : (a1 + 1) * a0_1 ≤ a0_0 * a0_1 := Int.mul_le_mul_of_nonneg_right (by omega) b2
        have c2 : (a1 + 1) * a0_1 = a1 * a0_1 + a0_1 := by rw [Int.add_mul]; omega
        rw [← hr1, List.length_take, List.length_drop]
        omega
      have hlt : ([] : List Int).length + r1.length < 140737488355328 := by have := hf.out; simp; omega
      have HLt := Aside0.mk hlt
      have Hl := Aside0.mk hlen
      have Hr1 := Aside0.mk hr1
      have h0' := Aside0.mk (show 0 ≤ a1 by omega)
      have h1' := Aside0.mk (show a1 < a0_0 by omega)
      clear hlen hr1 hlt
      go_enter Tryd.func60, Tryd.ntmps60
      go_wp2_with (first
        | (go_at_call 27; refine (mat_Check.calls a0_0 a0_1 _ _ l0_2 none _ (Kd.C_alloc HR.out _) HC.out A1.out (Sent.sub (show ∀ c, c ∈ mat_Check.L → c ∈ mat_Row.L by decide) (HS.out.below ((Below.refl _ _).alloc (Nat.le_refl _) _)))).mono ?_; rintro e w1 ⟨rfl, hb⟩; have hblk := (hb.block w.heap.size (by simp)).trans (heap_alloc_new w _); have hc0 : w1.cell? ⟨w.heap.size, 0, none⟩ = some (.int .i64 a0_0) := (blk_cell hblk 0).trans rfl; have hc1 : w1.cell? ⟨w.heap.size, 1, none⟩ = some (.int .i64 a0_1) := (blk_cell hblk 1).trans rfl; have hc2 : w1.cell? ⟨w.heap.size, 2, none⟩ = some (.slice A0_2 l0_2.length c0_2) := (blk_cell hblk 2).trans rfl; clear hblk; have HB := Aside0.mk (below_step (below_alloc (Below.refl _ _) _) hb); clear hb; simp only [errW_none])
        | (go_at_call 28; refine (mat_line_in (Kd.C_below HR.out HB.out) HC.out hf.out h0'.out h1'.out).mono ?_; rintro e w2 ⟨⟨A', c', hle, rfl, hcut⟩, hb⟩; have HB2 := Aside0.mk (below_step HB.out hb); have HCut := Aside0.mk hcut; have Hle := Aside0.mk hle; clear hb hcut hle)
        | (go_at_call 73; rw [← Hl.out]; refine (slices_Clone_byte_byte.calls A' c' r1 r1 w2 (by have := HCut.out _ (Kd.C_below HR.out HB2.out); rw [Nat.add_sub_cancel_left, Hr1.out] at this; rw [Hl.out]; exact this) (by rw [Hl.out]; exact Hle.out) (by unfold slices_Clone_byte_byte.f; rw [Option.bind_some, if_pos HLt.out, List.nil_append])).mono ?_; rintro e w3 ⟨v, rfl, ho, hb⟩; have HB3 := Aside0.mk (below_step HB2.out hb); have HO := Aside0.mk (Kd.R_lower ho (below_size HB2.out)); clear hb ho))
      go_ret2
      exact ⟨_, rfl, HO.out, HB3.out⟩

end Go.Proofs.YtndnedjclbigiaaDoor

namespace Go.Proofs.YtndnedjclbigiaaDoor.F
open Go.RowKit Go.Proofs.YtndnedjclbigiaaDoorW.PrintWords Go.Proofs.YtndnedjclbigiaaDoorW.PrintLast Go.Proofs.YtndnedjclbigiaaDoorW.PrintMore
attribute [local go_sem] max2_int min2_int max_two min_two max_three min_three max_four min_four   -- for this text's walks alone
set_option linter.unusedVariables false
set_option linter.unusedSimpArgs false
set_option linter.unusedSectionVars false
open Go.Proofs.YtndnedjclbigiaaDoor
variable [Errs]

/-! ### solve_rowsOf: function 42 -/
def solve_rowsOf.L : List Int := [2, 12]
def solve_rowsOf.l0 : Nat → List (List Int) → Int → Int → Int → Int → List Int → Option ((List (List Int)))
  | 0, _, _, _, _, _, _ => none
  | k + 1, x3, x8, x9, x310000, x310001, x310002 => if x9 < x8 then ((mat_Row.f x310000 x310001 x310002 x9).bind fun bt310 => (if bt310.2.isNone = true then (if x3.length < 5864062014805 then (solve_rowsOf.l0 k (x3 ++ [bt310.1]) x8 (wrap64 (x9 + 1)) x310000 x310001 x310002) else (none)) else (some ([] : List (List Int))))) else (some x3)
def solve_rowsOf.f (k : Nat) (a0_0 : Int) (a0_1 : Int) (l0_2 : List Int) : Option ((List (List Int))) := solve_rowsOf.l0 k ([] : List (List Int)) a0_0 0 a0_0 a0_1 l0_2
theorem solve_rowsOf.mono_l : ∀ k, (∀ y0 y1 y2 y3 y4 y5, LeO (solve_rowsOf.l0 k y0 y1 y2 y3 y4 y5) (solve_rowsOf.l0 (k + 1) y0 y1 y2 y3 y4 y5))
  | 0 => fun _ _ _ _ _ _ r h => by simp [solve_rowsOf.l0] at h
  | k + 1 => by
    have ih0 := solve_rowsOf.mono_l k
    · intro y0 y1 y2 y3 y4 y5
      unfold solve_rowsOf.l0
      repeat' first
      | (with_reducible exact ih0 _ _ _ _ _ _)
      | (with_reducible exact LeO.refl _)
      | (with_reducible exact LeO.none _)
      | (with_reducible refine LeO.ite ?_ ?_)
      | (with_reducible refine LeO.bind ?_ (fun _ => ?_))
      | exact ih0 _ _ _ _ _ _
      | exact LeO.none _
      | refine LeO.ite ?_ ?_
      | refine LeO.bind ?_ (fun _ => ?_)
theorem solve_rowsOf.mono : ∀ a0 a1 a2 k, LeO (solve_rowsOf.f k a0 a1 a2) (solve_rowsOf.f (k + 1) a0 a1 a2) := by
  intro a0 a1 a2 k
  have ih0 := solve_rowsOf.mono_l k
  unfold solve_rowsOf.f
  repeat' first
      | (with_reducible exact ih0 _ _ _ _ _ _)
      | (with_reducible exact LeO.refl _)
      | (with_reducible exact LeO.none _)
      | (with_reducible refine LeO.ite ?_ ?_)
      | (with_reducible refine LeO.bind ?_ (fun _ => ?_))
      | exact ih0 _ _ _ _ _ _
      | exact LeO.none _
      | refine LeO.ite ?_ ?_
      | refine LeO.bind ?_ (fun _ => ?_)
set_option maxHeartbeats 8000000 in
set_option maxRecDepth 100000 in
theorem solve_rowsOf.calls (k : Nat) (a0_0 : Int) (a0_1 : Int) (A0_2 : Option Addr) (c0_2 : Nat) (l0_2 : List Int) (r : List (List Int)) (w : World) (hr0_2 : Kd.C (Kd.int .u8) w A0_2 l0_2.length l0_2) (hc0_2 : l0_2.length ≤ c0_2) (h : solve_rowsOf.f k a0_0 a0_1 l0_2 = some r) (hS : Sent solve_rowsOf.L w) :
    Calls Tryd.prog 42 #[.agg #[.int .i64 a0_0, .int .i64 a0_1, .slice A0_2 l0_2.length c0_2]] w fun e w' => ∃ v0_ : Value, e = .returned (v0_) ∧ Kd.S (Kd.slice 5 (Kd.int .u8)) 41 w' w.heap.size (fun _ => True) v0_ r ∧ Below w.heap.size w w' := by
  have hu43 := Tryd.underlying43
  have hu30 := Tryd.underlying30
  have HR0_2 := Aside0.mk hr0_2
  have HC0_2 := Aside0.mk hc0_2
  clear hr0_2 hc0_2
  have HB := Aside0.mk (Below.refl w.heap.size w)
  have HS := Aside0.mk hS
  clear hS
  have H : (solve_rowsOf.l0 k ([] : List (List Int)) a0_0 0 a0_0 a0_1 l0_2) = some r := h
  clear h
  have H' := Aside0.mk H
  clear H
  go_enter Tryd.func42, Tryd.ntmps42
  go_wp2_with (first | ((with_reducible refine gate_dst (N := 1) rfl ?_); refine box_event ?hg (N := 1) ?hd (cs := #[.int .i64 a0_0, .int .i64 a0_1, .slice A0_2 l0_2.length c0_2]) (t := 43) ?hr ?_; (case hd => rfl); (case hg => rfl); (case hr => first | (go_simp; done) | (go_simp; rfl)); intro gb309 hg w2 hbox hb; have n0_ := Aside0.mk (below_step (by repeat (first | (with_reducible first | exact HB.out | apply below_alloc | apply pw_below_drewN | apply below_drew1) | exact HB.out)) hb); have n1_ := Aside0.mk (hbox); have n2_ := Aside0.mk ((by rw [hg]; exact (below_size (by repeat (first | (with_reducible first | exact HB.out | apply below_alloc | apply pw_below_drewN | apply below_drew1) | exact HB.out))) : w.heap.size ≤ gb309)); have n3_ := Aside0.mk ((by rw [hg]; exact (below_size (by repeat (first | (with_reducible first | exact HB.out | apply below_alloc | apply pw_below_drewN | apply below_drew1) | exact HB.out))) : w.heap.size ≤ gb309)); clear HB; have HB := n0_; have BK309 := n1_; have GW309 := n2_; have GE309 := n3_; clear n0_ n1_ n2_ n3_; clear hb hbox hg; have hcz3_0 : w2.cell? ⟨gb309, 0, none⟩ = some (.int .i64 a0_0) := (blk_cell BK309.out 0).trans rfl; have hcz3_1 : w2.cell? ⟨gb309, 1, none⟩ = some (.int .i64 a0_1) := (blk_cell BK309.out 1).trans rfl; have hcz3_2 : w2.cell? ⟨gb309, 2, none⟩ = some (.slice A0_2 l0_2.length c0_2) := (blk_cell BK309.out 2).trans rfl; have hfz3_0 := blk_frozen BK309.out 0; have hfz3_1 := blk_frozen BK309.out 1; have hfz3_2 := blk_frozen BK309.out 2))
  go_loopg [3, 9] k (fun kq v3 v9 w' => ∃ (x3_1 : List (List Int)) (x9_1 : Int), v9 = .int .i64 x9_1 ∧ Aside0 (solve_rowsOf.l0 kq x3_1 a0_0 x9_1 a0_0 a0_1 l0_2 = some r) ∧ Aside0 (kq ≤ k) ∧ Aside0 (Kd.S (Kd.slice 5 (Kd.int .u8)) 41 w' w.heap.size (fun _ => True) v3 x3_1) ∧ Aside0 (w'.heap[gb309]? = some (.cells #[.int .i64 a0_0, .int .i64 a0_1, (.slice A0_2 l0_2.length c0_2)] 43 (0, 0))) ∧ Aside0 (Below w.heap.size w w'))
  case atStart => exact ⟨(([] : List (List Int))), (0), (by first | rfl | (simp; done) | (simp [*]; done)), H', ⟨Nat.le_refl _⟩, ⟨by first | exact Kd.S_nil _ _ _ _ _ | exact Kd.N_nil _ _ _ _ _ | exact Kd.V_nil _ _ _ _ _ | exact Kd.Q_nil _ _ _ _ _ | exact Kd.R_nil _ _ _ _ _⟩, ⟨by (with_reducible repeat (first | refine blk_drewN ?_ _ | refine blk_drew ?_ | refine blk_alloc ?_ _)); exact BK309.out⟩, ⟨by repeat (first | (with_reducible first | exact HB.out | apply below_alloc | apply pw_below_drewN | apply below_drew1 | refine below_set ?_ GE309.out) | exact HB.out)⟩⟩
  case round =>
    clear H'
    try clear p2
    try clear hcz3_0
    try clear hcz3_1
    try clear hcz3_2
    try clear hfz3_0
    try clear hfz3_1
    try clear hfz3_2
    obtain ⟨x3_1, x9_1, rfl, HA, HK1, HO_3, BK309, HB⟩ := hrel
    cases gk with
    | zero => exact absurd HA.out (by simp [solve_rowsOf.l0])
    | succ k1 =>
      have H := HA.out
      clear HA
      first | rw [solve_rowsOf.l0] at H | simp only [solve_rowsOf.l0] at H
      by_cases c4 : x9_1 < a0_0
      · rw [if_pos c4] at H
        have c4b0 : decide (x9_1 < a0_0) = true := decide_eq_true c4
        clear c4
        replace H := Option.bind_eq_some_iff.mp H
        obtain ⟨⟨t310, t313⟩, A50, H⟩ := H
        replace H : (if t313.isNone = true then (if x3_1.length < 5864062014805 then (solve_rowsOf.l0 k1 (x3_1 ++ [t310]) a0_0 (wrap64 (x9_1 + 1)) a0_0 a0_1 l0_2) else (none)) else (some ([] : List (List Int)))) = some r := H
        have A5 := Aside0.mk A50
        clear A50
        rcases t313 with _ | q314
        · have H1 : (if x3_1.length < 5864062014805 then (solve_rowsOf.l0 k1 (x3_1 ++ [t310]) a0_0 (wrap64 (x9_1 + 1)) a0_0 a0_1 l0_2) else (none)) = some r := by rw [if_pos (show (none : Option Int).isNone = true by rfl)] at H; exact H
          clear H
          have H := H1
          clear H1
          try simp only [errW_none, errW_some]
          by_cases c6 : x3_1.length < 5864062014805
          · rw [if_pos c6] at H
            have LMc6 := Aside0.mk c6
            clear c6
            obtain ⟨y315, hy315⟩ : ∃ y_ : List (List Int), y_ = (x3_1 ++ [t310]) := ⟨_, rfl⟩
            replace H : (solve_rowsOf.l0 k1 y315 a0_0 (wrap64 (x9_1 + 1)) a0_0 a0_1 l0_2) = some r := by first | (rw [hy315]; with_reducible exact H) | (have H2_ := (Option.bind_some _ _).symm.trans H; rw [hy315]; with_reducible exact H2_) | (have H2_ := (Option.bind_some _ _).symm.trans H; with_reducible exact H2_) | with_reducible exact H | (rw [hy315]; exact H) | exact H
            have Ny315 := Aside0.mk hy315
            clear hy315
            have H' := Aside0.mk H
            clear H
            have hcz7_0 : wr.cell? ⟨gb309, 0, none⟩ = some (.int .i64 a0_0) := (blk_cell BK309.out 0).trans rfl
            have hcz7_1 : wr.cell? ⟨gb309, 1, none⟩ = some (.int .i64 a0_1) := (blk_cell BK309.out 1).trans rfl
            have hcz7_2 : wr.cell? ⟨gb309, 2, none⟩ = some (.slice A0_2 l0_2.length c0_2) := (blk_cell BK309.out 2).trans rfl
            have hfz7_0 := blk_frozen BK309.out 0
            have hfz7_1 := blk_frozen BK309.out 1
            have hfz7_2 := blk_frozen BK309.out 2
            go_wp2_with (first | ((with_reducible refine gate_callee (f := 60) rfl ?_); refine goesL_ (some 15) rfl rfl Tryd.func60 (by kernel_rfl) rfl #[.agg #[.int .i64 a0_0, .int .i64 a0_1, .slice A0_2 l0_2.length c0_2], .int .i64 x9_1] rfl (by (try simp only [List.map_toArray, List.map_cons, List.map_nil]); first | done | rfl | (simp only [List.length_drop, List.length_take]; rfl)) ?_; (with_reducible refine (mat_Row.calls a0_0 a0_1 _ _ l0_2 x9_1 t310 none _ ?side1 ?side2 A5.out (Sent.sub (show ∀ c, c ∈ mat_Row.L → c ∈ solve_rowsOf.L by decide) (Sent.below HS.out (by repeat (first | (with_reducible first | exact HB.out | apply below_alloc | apply pw_below_drewN | apply below_drew1 | refine below_set ?_ GE309.out) | exact HB.out))))).mono ?_); (case side1 => repeat (first | exact (Kd.C_below HR0_2.out HB.out) | (with_reducible refine Kd.C_alloc ?_ _) | (with_reducible refine Kd.C_drewN ?_ _) | (with_reducible refine Kd.C_drew ?_))); (case side2 => exact HC0_2.out); rintro e w8 ⟨v311, rfl, ho0, hb⟩; refine ⟨_, rfl, ?_⟩; have n0_ := Aside0.mk (Kd.S_elder' (by (with_reducible repeat (first | apply Kd.S_alloc | apply Kd.S_drewN | apply Kd.S_drew)); exact HO_3.out) (Kd.R_base ho0) hb); have n1_ := Aside0.mk (Kd.R_lower ho0 (below_size (by repeat (first | (with_reducible first | exact HB.out | apply below_alloc | apply pw_below_drewN | apply below_drew1 | refine below_set ?_ GE309.out) | exact HB.out)))); have n2_ := Aside0.mk (blk_below (g := gb309) (o := .cells #[.int .i64 a0_0, .int .i64 a0_1, .slice A0_2 l0_2.length c0_2] 43 (0, 0)) (by (with_reducible repeat (first | refine blk_drewN ?_ _ | refine blk_drew ?_ | refine blk_alloc ?_ _)); exact BK309.out) hb); have n3_ := Aside0.mk (below_step (by repeat (first | (with_reducible first | exact HB.out | apply below_alloc | apply pw_below_drewN | apply below_drew1 | refine below_set ?_ GE309.out) | exact HB.out)) hb); clear HO_3; clear BK309; clear HB; have HO_3 := n0_; have HO312 := n1_; have BK309 := n2_; have HB := n3_; clear n0_ n1_ n2_ n3_; (try clear hb); (try clear hb2); (try clear hk); (try clear hi); (try clear ho0); (try simp only [errW_none, errW_some]); obtain ⟨Ao10, co10, eo10⟩ := Kd.R_slice HO312.out; subst eo10) | ((with_reducible refine gate_builtin (b := .append) (xs := #[.tmp 20, .tmp 22]) rfl ?_); at_builtin; refine Kd.S_append (Kd.slice 5 (Kd.int .u8)) (w0 := w) w.heap.size rfl (.tmp 20) (.tmp 22) 55 41 (.slice none 0 0) 24 rfl Tryd.underlying55 info41 rfl (by decide) (by omega) u3 x3_1 t310 [.slice Ao10 t310.length co10] (fun _ => True) (fun k_ => some k_ = (.slice Ao10 t310.length co10 : Value).ownBlock) rfl rfl ?aP (fun k_ hk_ => ((Kd.R_mono (ok' := fun k_ => ((fun _ => True)) k_ ∧ some k_ ≠ (u3 : Value).ownBlock) (Kd.R_apart' (HO312.out) (Kd.S_typed HO_3.out) (by decide)) (fun k_ hk => ⟨trivial, hk.2⟩))).1 k_ hk_.symm) ?aF ?aO ?aB ?aS ?aL ?_; (case aP => exact Kd.M_row (Kd.R_mono (Kd.R_tight rfl (Kd.R_mono (ok' := fun k_ => ((fun _ => True)) k_ ∧ some k_ ≠ (u3 : Value).ownBlock) (Kd.R_apart' (HO312.out) (Kd.S_typed HO_3.out) (by decide)) (fun k_ hk => ⟨trivial, hk.2⟩))) (fun _ h_ => h_))); (case aB => exact (by repeat (first | (with_reducible first | exact HB.out | apply below_alloc | apply pw_below_drewN | apply below_drew1 | refine below_set ?_ GE309.out) | exact HB.out))); (case aF => exact (fun _ _ => trivial)); (case aO => exact (by (with_reducible repeat (first | apply Kd.S_alloc | apply Kd.S_drewN | apply Kd.S_drew)); exact Kd.S_mono HO_3.out (fun k_ hk => ⟨trivial, fun e_ => hk.2 e_⟩))); (case aS => exact (below_size (by repeat (first | (with_reducible first | exact HB.out | apply below_alloc | apply pw_below_drewN | apply below_drew1 | refine below_set ?_ GE309.out) | exact HB.out)))); (case aL => have := LMc6.out; omega); intro v316 w9 ho hb hg hat; rw [← Ny315.out] at ho; have n0_ := Aside0.mk (blk_grown (g := gb309) (o := .cells #[.int .i64 a0_0, .int .i64 a0_1, .slice A0_2 l0_2.length c0_2] 43 (0, 0)) (by (with_reducible repeat (first | refine blk_drewN ?_ _ | refine blk_drew ?_ | refine blk_alloc ?_ _)); exact BK309.out) hg (Kd.S_ne HO_3.out BK309.out (by decide))); have n1_ := Aside0.mk (hb); have n2_ := Aside0.mk (ho); clear BK309; clear HB; clear HO_3; clear HO312; have BK309 := n0_; have HB := n1_; have HO317 := n2_; clear n0_ n1_ n2_; clear ho hb hg hat))
            go_roundg k1
            case measure => have := HK1.out; omega
            case rel => exact ⟨(y315), (wrap64 (x9_1 + 1)), (by first | rfl | (simp; done) | (simp [*]; done)), H', ⟨by have := HK1.out; omega⟩, ⟨by (with_reducible repeat (first | apply Kd.S_alloc | apply Kd.S_drewN | apply Kd.S_drew)); exact HO317.out⟩, ⟨by (with_reducible repeat (first | refine blk_drewN ?_ _ | refine blk_drew ?_ | refine blk_alloc ?_ _)); exact BK309.out⟩, ⟨by repeat (first | (with_reducible first | exact HB.out | apply below_alloc | apply pw_below_drewN | apply below_drew1 | refine below_set ?_ GE309.out) | exact HB.out)⟩⟩
          · rw [if_neg c6] at H
            exact absurd H (by simp)
        · have H1 : (some ([] : List (List Int))) = some r := by rw [if_neg (show ¬ (some q314).isNone = true by simp)] at H; exact H
          clear H
          have H := H1
          clear H1
          try simp only [errW_none, errW_some]
          obtain rfl := Option.some.inj H
          have hcz11_0 : wr.cell? ⟨gb309, 0, none⟩ = some (.int .i64 a0_0) := (blk_cell BK309.out 0).trans rfl
          have hcz11_1 : wr.cell? ⟨gb309, 1, none⟩ = some (.int .i64 a0_1) := (blk_cell BK309.out 1).trans rfl
          have hcz11_2 : wr.cell? ⟨gb309, 2, none⟩ = some (.slice A0_2 l0_2.length c0_2) := (blk_cell BK309.out 2).trans rfl
          have hfz11_0 := blk_frozen BK309.out 0
          have hfz11_1 := blk_frozen BK309.out 1
          have hfz11_2 := blk_frozen BK309.out 2
          go_wp2_with (first | ((with_reducible refine gate_callee (f := 60) rfl ?_); refine goesL_ (some 15) rfl rfl Tryd.func60 (by kernel_rfl) rfl #[.agg #[.int .i64 a0_0, .int .i64 a0_1, .slice A0_2 l0_2.length c0_2], .int .i64 x9_1] rfl (by (try simp only [List.map_toArray, List.map_cons, List.map_nil]); first | done | rfl | (simp only [List.length_drop, List.length_take]; rfl)) ?_; (with_reducible refine (mat_Row.calls a0_0 a0_1 _ _ l0_2 x9_1 t310 (some q314) _ ?side1 ?side2 A5.out (Sent.sub (show ∀ c, c ∈ mat_Row.L → c ∈ solve_rowsOf.L by decide) (Sent.below HS.out (by repeat (first | (with_reducible first | exact HB.out | apply below_alloc | apply pw_below_drewN | apply below_drew1 | refine below_set ?_ GE309.out) | exact HB.out))))).mono ?_); (case side1 => repeat (first | exact (Kd.C_below HR0_2.out HB.out) | (with_reducible refine Kd.C_alloc ?_ _) | (with_reducible refine Kd.C_drewN ?_ _) | (with_reducible refine Kd.C_drew ?_))); (case side2 => exact HC0_2.out); rintro e w12 ⟨v311, rfl, ho0, hb⟩; refine ⟨_, rfl, ?_⟩; have n0_ := Aside0.mk (Kd.S_elder' (by (with_reducible repeat (first | apply Kd.S_alloc | apply Kd.S_drewN | apply Kd.S_drew)); exact HO_3.out) (Kd.R_base ho0) hb); have n1_ := Aside0.mk (Kd.R_lower ho0 (below_size (by repeat (first | (with_reducible first | exact HB.out | apply below_alloc | apply pw_below_drewN | apply below_drew1 | refine below_set ?_ GE309.out) | exact HB.out)))); have n2_ := Aside0.mk (blk_below (g := gb309) (o := .cells #[.int .i64 a0_0, .int .i64 a0_1, .slice A0_2 l0_2.length c0_2] 43 (0, 0)) (by (with_reducible repeat (first | refine blk_drewN ?_ _ | refine blk_drew ?_ | refine blk_alloc ?_ _)); exact BK309.out) hb); have n3_ := Aside0.mk (below_step (by repeat (first | (with_reducible first | exact HB.out | apply below_alloc | apply pw_below_drewN | apply below_drew1 | refine below_set ?_ GE309.out) | exact HB.out)) hb); clear HO_3; clear BK309; clear HB; have HO_3 := n0_; have HO312 := n1_; have BK309 := n2_; have HB := n3_; clear n0_ n1_ n2_ n3_; (try clear hb); (try clear hb2); (try clear hk); (try clear hi); (try clear ho0); (try simp only [errW_none, errW_some])))
          go_ret
          exact ⟨_, by first | rfl | (simp [errW_none, errW_some] <;> rfl) | (simp [*, errW_none, errW_some] <;> rfl), by first | exact Kd.S_nil _ _ _ _ _ | exact Kd.N_nil _ _ _ _ _ | exact Kd.V_nil _ _ _ _ _ | exact Kd.Q_nil _ _ _ _ _ | exact Kd.R_nil _ _ _ _ _, by repeat (first | (with_reducible first | exact HB.out | apply below_alloc | apply pw_below_drewN | apply below_drew1 | refine below_set ?_ GE309.out) | exact HB.out)⟩
      · rw [if_neg c4] at H
        have c4b0 : decide (x9_1 < a0_0) = false := decide_eq_false c4
        clear c4
        obtain rfl := Option.some.inj H
        go_wp2
        go_ret
        exact ⟨_, by first | rfl | (simp [errW_none, errW_some] <;> rfl) | (simp [*, errW_none, errW_some] <;> rfl), by (with_reducible repeat (first | apply Kd.S_alloc | apply Kd.S_drewN | apply Kd.S_drew)); exact HO_3.out, by repeat (first | (with_reducible first | exact HB.out | apply below_alloc | apply pw_below_drewN | apply below_drew1 | refine below_set ?_ GE309.out) | exact HB.out)⟩

end Go.Proofs.YtndnedjclbigiaaDoor.F

namespace Go.Proofs.YtndnedjclbigiaaDoor
open Go.RowKit Go.Proofs.YtndnedjclbigiaaDoorW.PrintWords Go.Proofs.YtndnedjclbigiaaDoorW.PrintLast Go.Proofs.YtndnedjclbigiaaDoorW.PrintMore
open Go.Proofs.YtndnedjclbigiaaDoor.F
set_option linter.unusedVariables false
set_option linter.unusedSectionVars false
set_option linter.unusedSimpArgs false
variable [Errs]

theorem RowsN.of {w : World} {base g cap : Nat} {ok : Nat → Prop} {xs : List (List Int)} (h : Kd.R (Kd.slice 5 (Kd.int .u8)) 41 w base ok (.slice (some ⟨g, 0, none⟩) xs.length cap) xs) : RowsN w g xs.length cap xs := by
  obtain ⟨_, inner, ho, hr⟩ := h
  obtain ⟨hl, ho⟩ := ho
  rcases ho with ⟨h1, _⟩ | ⟨g', cap', cur, h1, hb, hh, hn, hm, hs, ht⟩
  · cases h1
  · injection h1 with e1 e2 e3
    injection e1 with e1
    injection e1 with e1
    subst e1 e3
    have hsz : (Kd.slice 5 (Kd.int .u8)).sz = 1 := rfl
    rw [hsz, Nat.mul_one] at hl hs ht
    refine ⟨rfl, hn, hm, cur, hh, hs, fun i x hi => ?_⟩
    have hil : i < xs.length := (List.getElem?_eq_some_iff.1 hi).1
    obtain ⟨v, hv, hR⟩ := hr.2 i x hi
    rw [hsz, Nat.mul_one] at hv
    obtain ⟨A, c, rfl, hc, hC, hT⟩ := own_read hR
    refine ⟨A, c, ?_, hc, hC, hT⟩
    have h2 : inner[i]? = some (Value.slice A x.length c) := by
      have h3 : i < inner.length := by omega
      rw [List.drop_eq_getElem_cons h3, List.take_succ_cons] at hv
      injection hv with hv _
      rw [List.getElem?_eq_getElem h3, hv]
    rw [← ht] at h2
    rw [List.getElem?_take_of_lt hil] at h2
    rw [← Array.getElem?_toList]
    exact h2

set_option maxHeartbeats 800000 in
theorem solve_reduce.nil (A : Option Addr) (cap : Nat) (cols : Int) (w : World) : Calls Tryd.prog 43 #[.slice A 0 cap, .int .i64 cols] w fun e w' => e = .returned (.slice none 0 0) ∧ w = w' := by
  by_cases h : 0 < cols
  · go_enter Tryd.func43, Tryd.ntmps43
    go_wp2
    go_step3
    go_wp2
    go_step3
    go_wp2
    refine wp_loop_rounds 1 ?_
    rw [rounds_succ]
    go_wp2
    try rw [Exit.noGoto_ret]
    go_ret
    exact ⟨rfl, rfl⟩
  · go_enter Tryd.func43, Tryd.ntmps43
    go_wp2
    go_step3
    go_wp2
    go_step3
    go_wp2
    refine wp_loop_rounds 1 ?_
    rw [rounds_succ]
    go_wp2
    try rw [Exit.noGoto_ret]
    go_ret
    exact ⟨rfl, rfl⟩

def OwnPost (B : Nat) (w0 : World) (v : Value) (rr : List (List Int)) (piv : List Int) (e : Ending) (w' : World) : Prop :=
  ∃ (A : Option Addr) (c : Nat) (Ap : Option Addr) (cp : Nat), v = .slice A rr.length c ∧ rr.length ≤ c ∧ e = .returned (.slice Ap piv.length cp) ∧ Kd.R (Kd.int .i64) 3 w' B (fun _ => True) (.slice Ap piv.length cp) piv ∧ Kd.C (Kd.slice 5 (Kd.int .u8)) w' A rr.length rr ∧ Below B w0 w'
theorem solve_reduce.own (k : Nat) (rows : List (List Int)) (cols : Int) (rr : List (List Int)) (piv : List Int) (v : Value) (B : Nat) (w0 w : World) (ho : Kd.R (Kd.slice 5 (Kd.int .u8)) 41 w B (fun _ => True) v rows) (hB : Below B w0 w) (hBw : B ≤ w.heap.size) (hcols : cols ≤ 1000)
    (h : solve_reduce.f k rows cols = some (rr, piv)) : Calls Tryd.prog 43 #[v, .int .i64 cols] w (OwnPost B w0 v rr piv) := by
  rcases Nat.eq_zero_or_pos rows.length with h0 | hp
  · obtain rfl : rows = [] := List.eq_nil_of_length_eq_zero h0
    obtain ⟨A, c, rfl⟩ := Kd.R_slice ho
    have hr : rr = [] ∧ piv = [] := by
      unfold solve_reduce.f at h
      cases k with
      | zero => simp [solve_reduce.l0] at h
      | succ k =>
        rw [solve_reduce.l0] at h
        by_cases hc : (0 : Int) < cols
        · rw [if_pos hc, if_pos (by simp)] at h; simp at h; exact ⟨h.1, h.2⟩
        · rw [if_neg hc] at h; simp at h; exact ⟨h.1, h.2⟩
    obtain ⟨rfl, rfl⟩ := hr
    refine (solve_reduce.nil A c cols w).mono ?_
    rintro e w' ⟨rfl, rfl⟩
    exact ⟨A, c, none, 0, rfl, by simp, rfl, Kd.R_nil _ _ _ _ _, ⟨rfl, by simp, fun h => absurd h (Nat.lt_irrefl 0)⟩, hB⟩
  · obtain ⟨g, cap, rfl, hBg, hg, _⟩ := Kd.R_form ho hp
    refine (solve_reduce.calls k g rows.length cap rows cols rr piv B w0 w (RowsN.of ho) hB hBg hcols h).mono ?_
    rintro e w' ⟨pv, rfl, hP, hR, hb⟩
    obtain ⟨Ap, cp, rfl⟩ := Kd.R_slice hP
    have hl := hR.len
    refine ⟨_, cap, Ap, cp, by rw [← hl], by have := hR.2.1; omega, rfl, Kd.R_mono hP (fun _ _ => trivial), ?_, hb⟩
    rw [hl]
    exact hR.toC

theorem box3 {w : World} {g t : Nat} {a b c : Value} (h : w.heap[g]? = some (.cells #[a, b, c] t (0, 0))) :
    w.cell? ⟨g, 0, none⟩ = some a ∧ w.cell? ⟨g, 1, none⟩ = some b ∧ w.cell? ⟨g, 2, none⟩ = some c ∧ w.frozen? ⟨g, 0, none⟩ = false ∧ w.frozen? ⟨g, 1, none⟩ = false ∧ w.frozen? ⟨g, 2, none⟩ = false :=
  ⟨(blk_cell h 0).trans rfl, (blk_cell h 1).trans rfl, (blk_cell h 2).trans rfl, blk_frozen h 0, blk_frozen h 1, blk_frozen h 2⟩
theorem box3_set {w : World} {g t : Nat} {a b c : Value} (h : w.heap[g]? = some (.cells #[a, b, c] t (0, 0))) (x y z : Value) :
    (((w.setCell ⟨g, 0, none⟩ x).setCell ⟨g, 1, none⟩ y).setCell ⟨g, 2, none⟩ z).heap[g]? = some (.cells #[x, y, z] t (0, 0)) := by
  have h1 := blk_set h 0 x
  have h2 := blk_set (h1.trans rfl : _ = some (.cells #[x, b, c] t (0, 0))) 1 y
  exact (blk_set (h2.trans rfl : _ = some (.cells #[x, y, c] t (0, 0))) 2 z).trans rfl
/-- The reduced rows' pivots, and the error. -/
def solve_Rank.f (k : Nat) (m0 m1 : Int) (l : List Int) : Option (Int × Option Int) :=
  (mat_Check.f m0 m1 l).bind fun t => if t.isNone = true then ((solve_rowsOf.f k m0 m1 l).bind fun rows => (solve_reduce.f k rows m1).bind fun r => (mat_Of.f k m1 r.1).bind fun q => some ((r.2.length : Int), q.2.2.2)) else some (0, some (t.getD 0))
def solve_Rank.L : List Int := [2, 12]
def RedPost (w : World) (n : Int) (r : Option Int) (e : Ending) (w' : World) : Prop := ∃ (a b : Int) (Av : Option Addr) (nv cv : Nat) (A : Option Addr) (c m : Nat), n = (m : Int) ∧ e = .returned (.tuple #[.agg #[.int .i64 a, .int .i64 b, .slice Av nv cv], .slice A m c, errW r]) ∧ Below w.heap.size w w'

set_option maxHeartbeats 1600000 in
set_option maxRecDepth 100000 in
theorem solve_Reduce.calls (k : Nat) (m0 m1 : Int) (A : Option Addr) (c : Nat) (l : List Int) (n : Int) (r : Option Int) (w : World) (hr : Kd.C (Kd.int .u8) w A l.length l) (hc : l.length ≤ c) (h : solve_Rank.f k m0 m1 l = some (n, r)) (hS : Sent solve_Rank.L w) :
    Calls Tryd.prog 29 #[.agg #[.int .i64 m0, .int .i64 m1, .slice A l.length c]] w (RedPost w n r) := by
  have hu43 := Tryd.underlying43
  have HR := Aside0.mk hr
  have HC := Aside0.mk hc
  have HS := Aside0.mk hS
  clear hr hc hS
  unfold solve_Rank.f at h
  obtain ⟨t, hA, h⟩ := Option.bind_eq_some_iff.mp h
  have A1 := Aside0.mk hA
  clear hA
  cases t with
  | some q =>
    rw [if_neg (show ¬ (some q).isNone = true by simp)] at h
    obtain ⟨rfl, rfl⟩ : (0 : Int) = n ∧ some q = r := by simpa using h
    clear h
    go_enter Tryd.func29, Tryd.ntmps29
    go_wp2_with (go_at_call 27; (with_reducible refine (mat_Check.calls m0 m1 _ _ l (some q) _ (Kd.C_alloc (Kd.C_alloc HR.out _) _) HC.out A1.out (Sent.sub (show ∀ c, c ∈ mat_Check.L → c ∈ solve_Rank.L by decide) (HS.out.below (below_alloc (below_alloc (Below.refl _ _) _) _)))).mono ?_); rintro e w1 ⟨rfl, hb⟩; simp only [errW_some]; have HB := Aside0.mk (below_step (below_alloc (below_alloc (Below.refl _ _) _) _) hb); have BK1 : Aside0 (w1.heap[w.heap.size]? = some (.cells #[.int .i64 m0, .int .i64 m1, .slice A l.length c] 43 (0, 0))) := ⟨blk_below (blk_alloc (blk_new w _) _) hb⟩; have BK2 : Aside0 (w1.heap[w.heap.size + 1]? = some (.cells #[.int .i64 0, .int .i64 0, .slice none 0 0] 43 (0, 0))) := ⟨blk_below (by simpa using blk_new (w.alloc (.cells #[.int .i64 m0, .int .i64 m1, .slice A l.length c] 43)) (.cells #[.int .i64 0, .int .i64 0, .slice none 0 0] 43)) hb⟩; have hz1 : w.heap.size + 1 < w1.heap.size := blk_lt BK2.out; obtain ⟨hc10, hc11, hc12, hf10, hf11, hf12⟩ := box3 BK1.out; obtain ⟨hc20, hc21, hc22, hf20, hf21, hf22⟩ := box3 BK2.out; clear hb)
    refine bodyPost_ret (results_ctt rfl _ _ (w.heap.size + 1) 43 #[.int .i64 0, .int .i64 0, .slice none 0 0] (0, 0) _ rfl ?_ Tryd.underlying43 rfl (by kernel_rfl)) rfl ?_
    · exact box3_set BK2.out _ _ _
    · exact ⟨0, 0, _, _, _, _, _, 0, rfl, rfl, below_setB _ _ (below_setB _ _ (below_setB _ _ HB.out (by omega)) (by omega)) (by omega)⟩
  | none =>
    rw [if_pos (show (none : Option Int).isNone = true by rfl)] at h
    obtain ⟨rows, hrows, h⟩ := Option.bind_eq_some_iff.mp h
    obtain ⟨⟨rr, piv⟩, hred, h⟩ := Option.bind_eq_some_iff.mp h
    obtain ⟨⟨q1, q2, q3, q4⟩, hof, h⟩ := Option.bind_eq_some_iff.mp h
    obtain ⟨rfl, rfl⟩ : (piv.length : Int) = n ∧ q4 = r := by simpa using h
    have A2 := Aside0.mk hrows
    have A3 := Aside0.mk hred
    have A4 := Aside0.mk hof
    have hm1 : m1 ≤ 1000 := by have := (mat_Check_none A1.out).2.2.2.1; omega
    have M1 := Aside0.mk hm1
    clear h hrows hred hof hm1
    go_enter Tryd.func29, Tryd.ntmps29
    go_wp2_with (first
      | (go_at_call 27; (with_reducible refine (mat_Check.calls m0 m1 _ _ l none _ (Kd.C_alloc (Kd.C_alloc HR.out _) _) HC.out A1.out (Sent.sub (show ∀ c, c ∈ mat_Check.L → c ∈ solve_Rank.L by decide) (HS.out.below (below_alloc (below_alloc (Below.refl _ _) _) _)))).mono ?_); rintro e w1 ⟨rfl, hb⟩; simp only [errW_none]; have HB := Aside0.mk (below_step (below_alloc (below_alloc (Below.refl _ _) _) _) hb); have BK1 : Aside0 (w1.heap[w.heap.size]? = some (.cells #[.int .i64 m0, .int .i64 m1, .slice A l.length c] 43 (0, 0))) := ⟨blk_below (blk_alloc (blk_new w _) _) hb⟩; have BK2 : Aside0 (w1.heap[w.heap.size + 1]? = some (.cells #[.int .i64 0, .int .i64 0, .slice none 0 0] 43 (0, 0))) := ⟨blk_below (by simpa using blk_new (w.alloc (.cells #[.int .i64 m0, .int .i64 m1, .slice A l.length c] 43)) (.cells #[.int .i64 0, .int .i64 0, .slice none 0 0] 43)) hb⟩; have hz1 : w.heap.size + 1 < w1.heap.size := blk_lt BK2.out; obtain ⟨hc10, hc11, hc12, hf10, hf11, hf12⟩ := box3 BK1.out; obtain ⟨hc20, hc21, hc22, hf20, hf21, hf22⟩ := box3 BK2.out; clear hb)
      | (go_at_call 42; (with_reducible refine (solve_rowsOf.calls k m0 m1 A c l rows _ (Kd.C_below HR.out HB.out) HC.out A2.out (Sent.sub (show ∀ c, c ∈ solve_rowsOf.L → c ∈ solve_Rank.L by decide) (HS.out.below HB.out))).mono ?_); rintro e w2 ⟨v, rfl, ho, hb⟩; have HB2 := Aside0.mk hb; have HO := Aside0.mk (Kd.S_R ho); have BK21 := Aside0.mk (blk_below BK1.out hb); have BK22 := Aside0.mk (blk_below BK2.out hb); obtain ⟨hc110, hc111, hc112, hf110, hf111, hf112⟩ := box3 BK21.out; clear ho hb)
      | (go_at_call 43; (with_reducible refine (solve_reduce.own k rows m1 rr piv v _ _ w2 HO.out HB2.out (below_size HB2.out) M1.out A3.out).mono ?_); rintro e w3 ⟨Ar, cr, Ap, cp, rfl, hcr, rfl, hP, hC, hb⟩; have HB3 := Aside0.mk hb; have HCR := Aside0.mk hC; have HLR := Aside0.mk hcr; have HP := Aside0.mk hP; have BK31 := Aside0.mk (blk_below BK1.out hb); have BK32 := Aside0.mk (blk_below BK2.out hb); obtain ⟨hc210, hc211, hc212, hf210, hf211, hf212⟩ := box3 BK31.out; clear hb hC hcr hP)
      | (go_at_call 26; (with_reducible refine (mat_Of.calls k m1 Ar cr rr q1 q2 q3 q4 _ HCR.out HLR.out A4.out (Sent.sub (show ∀ c, c ∈ mat_Of.L → c ∈ solve_Rank.L by decide) (HS.out.below (below_step HB.out HB3.out)))).mono ?_); rintro e w4 ⟨vo, rfl, ho, hb⟩; have HB4 := Aside0.mk (below_step HB.out (below_step HB3.out hb)); have BK42 := Aside0.mk (blk_below BK32.out hb); have hz4 : w.heap.size + 1 < w4.heap.size := blk_lt BK42.out; obtain ⟨hc320, hc321, hc322, hf320, hf321, hf322⟩ := box3 BK42.out; obtain ⟨Av, cv, hv⟩ := Kd.R_slice ho; subst hv; clear hb ho))
    refine bodyPost_ret (results_ctt rfl _ _ (w.heap.size + 1) 43 #[.int .i64 q1, .int .i64 q2, .slice Av q3.length cv] (0, 0) _ rfl (blk_alloc (box3_set BK42.out _ _ _) _) Tryd.underlying43 rfl (by kernel_rfl)) rfl ?_
    exact ⟨q1, q2, _, _, _, Ap, cp, piv.length, rfl, rfl, below_alloc (below_setB _ _ (below_setB _ _ (below_setB _ _ HB4.out (by omega)) (by omega)) (by omega)) _⟩

theorem solve_reduce.mono_l : ∀ k, (∀ y0 y1 y2 y3 y4, LeO (solve_reduce.l0 k y0 y1 y2 y3 y4) (solve_reduce.l0 (k + 1) y0 y1 y2 y3 y4))
  | 0 => fun _ _ _ _ _ r h => by simp [solve_reduce.l0] at h
  | k + 1 => by
    have ih := solve_reduce.mono_l k
    intro y0 y1 y2 y3 y4
    unfold solve_reduce.l0
    exact LeO.ite (LeO.ite (LeO.refl _) (LeO.bind (solve_find.mono _ _ _ _) (fun _ => LeO.ite (ih _ _ _ _ _) (LeO.ite (LeO.ite (LeO.bind (solve_clear.mono _ _ _ _) (fun _ => LeO.ite (ih _ _ _ _ _) (LeO.refl _))) (LeO.refl _)) (LeO.refl _))))) (LeO.refl _)
theorem solve_Rank.mono (m0 m1 : Int) (l : List Int) (k : Nat) : LeO (solve_Rank.f k m0 m1 l) (solve_Rank.f (k + 1) m0 m1 l) :=
  LeO.bind (LeO.refl _) (fun _ => LeO.ite (LeO.bind (solve_rowsOf.mono _ _ _ _) (fun _ => LeO.bind (solve_reduce.mono_l _ _ _ _ _ _) (fun _ => LeO.bind (mat_Of.mono _ _ _) (fun _ => LeO.refl _)))) (LeO.refl _))
set_option maxHeartbeats 800000 in
set_option maxRecDepth 100000 in
theorem solve_Rank.calls (k : Nat) (a0_0 : Int) (a0_1 : Int) (A0_2 : Option Addr) (c0_2 : Nat) (l0_2 : List Int) (r1 : Int) (r2 : Option Int) (w : World) (hr0_2 : Kd.C (Kd.int .u8) w A0_2 l0_2.length l0_2) (hc0_2 : l0_2.length ≤ c0_2) (h : solve_Rank.f k a0_0 a0_1 l0_2 = some (r1, r2)) (hS : Sent solve_Rank.L w) :
    Calls Tryd.prog 18 #[.agg #[.int .i64 a0_0, .int .i64 a0_1, .slice A0_2 l0_2.length c0_2]] w fun e w' => e = .returned (.tuple #[.int .i64 r1, errW r2]) ∧ Below w.heap.size w w' := by
  have hu43 := Tryd.underlying43
  have HR := Aside0.mk hr0_2
  have HC := Aside0.mk hc0_2
  have HS := Aside0.mk hS
  have HA := Aside0.mk h
  clear hr0_2 hc0_2 hS h
  go_enter Tryd.func18, Tryd.ntmps18
  go_wp2_with (go_at_call 29; (with_reducible refine (solve_Reduce.calls k a0_0 a0_1 _ _ l0_2 r1 r2 _ (Kd.C_alloc HR.out _) HC.out HA.out (HS.out.below (below_alloc (Below.refl _ _) _))).mono ?_); rintro e w1 ⟨a, b, Av, nv, cv, A, c, m, hm, rfl, hb⟩; have HM := Aside0.mk hm; have HB := Aside0.mk (below_step (below_alloc (Below.refl _ _) _) hb); clear hb hm)
  have hm := HM.out
  subst hm
  go_ret2
  exact ⟨rfl, below_alloc HB.out _⟩

end Go.Proofs.YtndnedjclbigiaaDoor

namespace Go.Proofs.YtndnedjclbigiaaDoor
open Go.RowKit Go.Proofs.YtndnedjclbigiaaDoorW.PrintWords Go.Proofs.YtndnedjclbigiaaDoorW.PrintLast Go.Proofs.YtndnedjclbigiaaDoorW.PrintMore
open Go.Proofs.YtndnedjclbigiaaDoor.F
set_option linter.unusedVariables false
set_option linter.unusedSectionVars false
set_option linter.unusedSimpArgs false
variable [Errs]

theorem box_put2 {w : World} {g t : Nat} {a b c : Value} (h : w.heap[g]? = some (.cells #[a, b, c] t (0, 0))) (z : Value) : (w.setCell ⟨g, 2, none⟩ z).heap[g]? = some (.cells #[a, b, z] t (0, 0)) := (blk_set h 2 z).trans rfl
def takeRow (m0 m1 : Int) (l : List Int) (i : Int) : Option (List Int) := if 0 ≤ i then (if i < m0 then some ((l.drop (i * m1).toNat).take m1.toNat) else none) else none
def mat_Take.l0 : Nat → Int → Int → List Int → List Int → Int → List Int → Option (List Int)
  | 0, _, _, _, _, _, _ => none
  | k + 1, m0, m1, l, rows, j, acc => if j < (rows.length : Int) then (takeRow m0 m1 l (rd rows j)).bind fun r => mat_Take.l0 k m0 m1 l rows (j + 1) (acc ++ r) else some acc
/-- The taken rows; none where Take refuses. -/
def mat_Take.f (k : Nat) (m0 m1 : Int) (l : List Int) (rows : List Int) : Option (Int × Int × List Int × Option Int) :=
  if rows.length ≤ 64 then (if mat_Check.f m0 m1 l = some none then (mat_Take.l0 k m0 m1 l rows 0 []).bind fun a => some ((rows.length : Int), m1, a, none) else none) else none
def mat_Take.L : List Int := [2, 12]
def TakePost (w : World) (r1 r2 : Int) (r3 : List Int) (e : Ending) (w' : World) : Prop := ∃ v2_ : Value, e = .returned (.tuple #[.agg #[.int .i64 r1, .int .i64 r2, v2_], .nilIface]) ∧ Kd.R (Kd.int .u8) 5 w' w.heap.size (fun _ => True) v2_ r3 ∧ Below w.heap.size w w'

set_option maxHeartbeats 3200000 in
set_option maxRecDepth 100000 in
theorem mat_Take.go (k : Nat) (m0 m1 : Int) (A : Option Addr) (c : Nat) (l : List Int) (Ar : Option Addr) (cr : Nat) (rows : List Int) (a : List Int) (w : World) (hr : Kd.C (Kd.int .u8) w A l.length l) (hc : l.length ≤ c) (hr2 : Kd.C (Kd.int .i64) w Ar rows.length rows) (hc2 : rows.length ≤ cr)
    (hl : rows.length ≤ 64) (hchk : mat_Check.f m0 m1 l = some none) (h : mat_Take.l0 k m0 m1 l rows 0 [] = some a) (hS : Sent mat_Take.L w) :
    Calls Tryd.prog 17 #[.agg #[.int .i64 m0, .int .i64 m1, .slice A l.length c], .slice Ar rows.length cr] w (TakePost w (rows.length : Int) m1 a) := by
  have hu43 := Tryd.underlying43
  have HR := Aside0.mk hr
  have HC := Aside0.mk hc
  have HR2 := Aside0.mk hr2
  have HC2 := Aside0.mk hc2
  have HS := Aside0.mk hS
  have HF := Aside0.mk (mat_Check_none hchk)
  have A1 := Aside0.mk hchk
  have HA := Aside0.mk h
  have HLL := Aside0.mk hl
  have hl64 : ¬ (64 : Int) < (rows.length : Int) := by omega
  have hl64' : ¬ 64 < rows.length := by omega
  clear hr hc hr2 hc2 hS hchk h hl
  go_enter Tryd.func17, Tryd.ntmps17
  go_wp2_with (go_at_call 27; (with_reducible refine (mat_Check.calls m0 m1 _ _ l none _ (Kd.C_alloc (Kd.C_alloc HR.out _) _) HC.out A1.out (Sent.sub (show ∀ c, c ∈ mat_Check.L → c ∈ mat_Take.L by decide) (HS.out.below (below_alloc (below_alloc (Below.refl _ _) _) _)))).mono ?_); rintro e w1 ⟨rfl, hb⟩; simp only [errW_none]; have HB := Aside0.mk (below_step (below_alloc (below_alloc (Below.refl _ _) _) _) hb); have BK1 : Aside0 (w1.heap[w.heap.size]? = some (.cells #[.int .i64 m0, .int .i64 m1, .slice A l.length c] 43 (0, 0))) := ⟨blk_below (blk_alloc (blk_new w _) _) hb⟩; have BK2 : Aside0 (w1.heap[w.heap.size + 1]? = some (.cells #[.int .i64 0, .int .i64 0, .slice none 0 0] 43 (0, 0))) := ⟨blk_below (by simpa using blk_new (w.alloc (.cells #[.int .i64 m0, .int .i64 m1, .slice A l.length c] 43)) (.cells #[.int .i64 0, .int .i64 0, .slice none 0 0] 43)) hb⟩; have hz1 : w.heap.size + 1 < w1.heap.size := blk_lt BK2.out; obtain ⟨hc10, hc11, hc12, hf10, hf11, hf12⟩ := box3 BK1.out; clear hb)
  obtain ⟨g1, hg1⟩ : ∃ g1, g1 = w.heap.size := ⟨_, rfl⟩
  obtain ⟨g2, hg2⟩ : ∃ g2, g2 = g1 + 1 := ⟨_, rfl⟩
  obtain ⟨g3, hg3⟩ : ∃ g3, g3 = w1.heap.size := ⟨_, rfl⟩
  rw [← hg1, ← hg2, ← hg3]
  have G1 : Aside0 (w.heap.size ≤ g1) := ⟨by omega⟩
  have G2 : Aside0 (w.heap.size ≤ g2) := ⟨by omega⟩
  have G3 : Aside0 (w.heap.size ≤ g3) := ⟨by omega⟩
  rw [← hg1] at BK1
  rw [← hg1, ← hg2] at BK2
  have N13 : Aside0 (g1 ≠ g3) := ⟨by have := blk_lt BK1.out; omega⟩
  have N23 : Aside0 (g2 ≠ g3) := ⟨by have := blk_lt BK2.out; omega⟩
  go_loopg [26] k (fun kq v26 w' => ∃ (j : Int) (acc : List Int) (u : Value), v26 = .int .i64 j ∧ Aside0 (0 ≤ j) ∧ Aside0 (mat_Take.l0 kq m0 m1 l rows j acc = some a) ∧ Aside0 (kq ≤ k) ∧ Aside0 ((acc.length : Int) ≤ j * 64) ∧ Aside0 (w'.heap[g1]? = some (.cells #[.int .i64 m0, .int .i64 m1, .slice A l.length c] 43 (0, 0))) ∧ Aside0 (w'.heap[g2]? = some (.cells #[.int .i64 0, .int .i64 0, .slice none 0 0] 43 (0, 0))) ∧ Aside0 (w'.heap[g3]? = some (.cells #[.int .i64 (rows.length : Int), .int .i64 m1, u] 43 (0, 0))) ∧ Aside0 (Kd.R (Kd.int .u8) 5 w' w.heap.size (fun _ => True) u acc) ∧ Aside0 (Below w.heap.size w w'))
  case atStart =>
    refine ⟨0, [], .slice none 0 0, rfl, ⟨by omega⟩, HA, ⟨Nat.le_refl _⟩, ⟨by simp⟩, ⟨?_⟩, ⟨?_⟩, ⟨?_⟩, ⟨Kd.R_nil _ _ _ _ _⟩, ⟨?_⟩⟩
    · exact blk_alloc BK1.out _
    · exact blk_alloc BK2.out _
    · rw [hg3]; exact blk_new w1 _
    · exact below_alloc HB.out _
  case round =>
    clear HA HB BK1 BK2 hg1 hg2 hg3 hc10 hc11 hc12 hf10 hf11 hf12 hz1
    obtain ⟨j, acc, u, rfl, H0, HA, HK, HLA0, BK1, BK2, BK3, HO, HB⟩ := hrel
    cases gk with
    | zero => exact absurd HA.out (by simp [mat_Take.l0])
    | succ k1 =>
      have H := HA.out
      clear HA
      rw [mat_Take.l0] at H
      have h0 := H0.out
      by_cases hlt : j < (rows.length : Int)
      · rw [if_pos hlt] at H
        obtain ⟨rw_, hrw, H⟩ := Option.bind_eq_some_iff.mp H
        obtain ⟨acc2, ha2⟩ : ∃ y, acc ++ rw_ = y := ⟨_, rfl⟩
        rw [ha2] at H
        have HAC := Aside0.mk ha2
        have H' := Aside0.mk H
        unfold takeRow at hrw
        obtain ⟨adr, rfl, hx⟩ := C_at_ (Kd.C_below HR2.out HB.out) j h0 hlt
        obtain ⟨x, hxe⟩ : ∃ x, rd rows j = x := ⟨_, rfl⟩
        rw [hxe] at hrw hx
        by_cases hx0 : 0 ≤ x
        rotate_left
        · rw [if_neg hx0] at hrw; cases hrw
        by_cases hx1 : x < m0
        rotate_left
        · rw [if_pos hx0, if_neg hx1] at hrw; cases hrw
        rw [if_pos hx0, if_pos hx1] at hrw
        have HRW := Aside0.mk (Option.some.inj hrw)
        have hrl : rw_.length ≤ 64 := by
          rw [← HRW.out, List.length_take]
          have := HF.out.2.2.2.1
          omega
        have HLA : Aside0 (acc.length + m1.toNat ≤ 100000) := ⟨by have := HLA0.out; have := HLL.out; have := HF.out.2.2.2.1; omega⟩
        have HLB : Aside0 (((acc ++ rw_).length : Int) ≤ (j + 1) * 64) := ⟨by have := HLA0.out; rw [List.length_append]; omega⟩
        have hw1 : wrap64 (j + 1) = j + 1 := by have := HLL.out; unfold wrap64; omega
        obtain ⟨hc10, hc11, hc12, hf10, hf11, hf12⟩ := box3 BK1.out
        rw [ha2] at HLB
        clear H hrw hrl hxe ha2
        go_wp2
        refine start_ (n := 8) (S := fun w' => w'.cell? ⟨g3, 2, none⟩ = some u ∧ w'.cell? ⟨g1, 0, none⟩ = some (.int .i64 m0) ∧ w'.cell? ⟨g1, 1, none⟩ = some (.int .i64 m1) ∧ w'.cell? ⟨g1, 2, none⟩ = some (.slice A l.length c) ∧ w'.frozen? ⟨g3, 2, none⟩ = false) (ds := [7]) #[false, false, false, false, false, false, false, false] (by kernel_rfl) rfl rfl ⟨(blk_cell BK3.out 2).trans rfl, (blk_cell BK1.out 0).trans rfl, (blk_cell BK1.out 1).trans rfl, (blk_cell BK1.out 2).trans rfl, blk_frozen BK3.out 2⟩ (fun hHeld => ?_)
        refine pure_ (i := 0) (N := some 40) (v := ?_) (a' := ?_) #[true, false, false, false, false, false, false, false] rfl rfl (by kernel_rfl) (fun _ _ _ h => h) (Or.inl ⟨by rfl, ?_⟩) ?_ ?_
        rotate_left
        · intro w'
          go_simp
          with_reducible rfl
        rotate_left
        · simp only [Act.put, List.setIfInBounds_toArray, List.set_cons_zero, List.set_cons_succ, i64_w, i32_w]
          rfl
        refine take_ (i := 1) (N := some 41) (v := ?_) (a' := ?_) #[true, true, false, false, false, false, false, false] rfl rfl (by kernel_rfl) (fun _ _ _ h => h) (Or.inl ⟨by rfl, ?_⟩) hHeld ?_ ?_
        rotate_left
        · rintro w' ⟨s0, s1, s2, s3, s4⟩
          go_simp
          with_reducible rfl
        rotate_left
        · simp only [Act.put, List.setIfInBounds_toArray, List.set_cons_zero, List.set_cons_succ, i64_w, i32_w]
          rfl
        refine take_ (i := 2) (N := some 42) (v := ?_) (a' := ?_) #[true, true, true, false, false, false, false, false] rfl rfl (by kernel_rfl) (fun _ _ _ h => h) (Or.inl ⟨by rfl, ?_⟩) hHeld ?_ ?_
        rotate_left
        · rintro w' ⟨s0, s1, s2, s3, s4⟩
          go_simp
          with_reducible rfl
        rotate_left
        · simp only [Act.put, List.setIfInBounds_toArray, List.set_cons_zero, List.set_cons_succ, i64_w, i32_w]
          rfl
        refine pure_ (i := 3) (N := some 43) (v := ?_) (a' := ?_) #[true, true, true, true, false, false, false, false] rfl rfl (by kernel_rfl) (fun _ _ _ h => h) (Or.inl ⟨by rfl, ?_⟩) ?_ ?_
        rotate_left
        · intro w'
          go_simp
          with_reducible rfl
        rotate_left
        · simp only [Act.put, List.setIfInBounds_toArray, List.set_cons_zero, List.set_cons_succ, i64_w, i32_w]
          rfl
        refine one_ (i := 4) (N := some 44) #[true, true, true, true, true, false, false, false] rfl rfl (by kernel_rfl) (by decide) (fun K hK => ?_)
        refine goes_ Tryd.func28 (by kernel_rfl) rfl #[.agg #[.int .i64 m0, .int .i64 m1, .slice A l.length c], .int .i64 x] (by rfl) rfl rfl (by (try simp only [List.map_toArray, List.map_cons, List.map_nil]); first | done | rfl) ?_
        (with_reducible refine (mat_line_in (Kd.C_below HR.out (below_step HB.out (below_drew (Below.refl _ _)))) HC.out HF.out hx0 hx1).mono ?_)
        rintro e w5 ⟨⟨Al, cl, hcl, rfl, hcut⟩, hb⟩
        refine ⟨_, rfl, ?_⟩
        have HB5 := Aside0.mk (below_step (below_step HB.out (below_drew (Below.refl _ _))) hb)
        have K1 := Aside0.mk (blk_below BK1.out (below_step (below_drew (Below.refl _ _)) hb))
        have K2 := Aside0.mk (blk_below BK2.out (below_step (below_drew (Below.refl _ _)) hb))
        have K3 := Aside0.mk (blk_below BK3.out (below_step (below_drew (Below.refl _ _)) hb))
        have HO5 := Aside0.mk (Kd.R_below HO.out (below_step (below_drew (Below.refl _ _)) hb))
        have HCUT := Aside0.mk (hcut _ (Kd.C_below HR.out HB5.out))
        clear hb hcut BK1 BK2 BK3 HO HB
        refine hK.out _ _ ⟨(blk_cell K3.out 2).trans rfl, (blk_cell K1.out 0).trans rfl, (blk_cell K1.out 1).trans rfl, (blk_cell K1.out 2).trans rfl, blk_frozen K3.out 2⟩ (fun hHeld => ?_)
        clear hK K
        refine norm_ (a' := ?_) ?_ ?_
        rotate_left
        · show Act.put _ (some 44) _ = _
          simp only [Act.put, List.setIfInBounds_toArray, List.set_cons_zero, List.set_cons_succ, i64_w, i32_w]
          rfl
        refine one_ (i := 5) (N := some 45) #[true, true, true, true, true, true, false, false] rfl rfl (by kernel_rfl) (by decide) (fun K hK => ?_)
        refine Kd.R_append_rows_step (Kd.int .u8) (w0 := w) w.heap.size (by rfl) (.tmp 41) (.tmp 44) 41 5 (.int .u8 0) 1 rfl Tryd.underlying41 info5e rfl (by decide) (by omega) u acc rw_ _ _ _ (fun _ => True) (fun _ => False) rfl rfl HO5.out ?aR (fun _ _ h => h) (fun _ h => h.elim) (fun _ _ => trivial) HB5.out (below_size HB5.out) ?aL ?_
        (case aR => have h_ := HCUT.out; rw [Nat.add_sub_cancel_left, HRW.out] at h_; exact h_)
        (case aL => have := HLA.out; omega)
        intro u2 w6 ho hb hg hat
        rw [HAC.out] at ho
        have L1 := Aside0.mk (blk_grown K1.out hg (Kd.R_ne HO5.out K1.out (by decide)))
        have L2 := Aside0.mk (blk_grown K2.out hg (Kd.R_ne HO5.out K2.out (by decide)))
        have L3 := Aside0.mk (blk_grown K3.out hg (Kd.R_ne HO5.out K3.out (by decide)))
        have HO6 := Aside0.mk ho
        have HB6 := Aside0.mk hb
        clear ho hb hg hat K1 K2 K3 HO5 HB5
        obtain ⟨A6, c6, hu6⟩ := Kd.R_slice HO6.out
        subst hu6
        refine hK.out _ _ ⟨(blk_cell L3.out 2).trans rfl, (blk_cell L1.out 0).trans rfl, (blk_cell L1.out 1).trans rfl, (blk_cell L1.out 2).trans rfl, blk_frozen L3.out 2⟩ (fun hHeld => ?_)
        clear hK K
        refine norm_ (a' := ?_) ?_ ?_
        rotate_left
        · show Act.put _ (some 45) _ = _
          simp only [Act.put, List.setIfInBounds_toArray, List.set_cons_zero, List.set_cons_succ, i64_w, i32_w]
          rfl
        refine pure_ (i := 6) (N := some 46) (v := ?_) (a' := ?_) #[true, true, true, true, true, true, true, false] rfl rfl (by kernel_rfl) (fun _ _ _ h => h) (Or.inl ⟨by rfl, ?_⟩) ?_ ?_
        rotate_left
        · intro w'
          go_simp
          with_reducible rfl
        rotate_left
        · simp only [Act.put, List.setIfInBounds_toArray, List.set_cons_zero, List.set_cons_succ, i64_w, i32_w]
          rfl
        refine last_ (i := 7) (N := none) #[true, true, true, true, true, true, true, true] rfl rfl (by kernel_rfl) (by decide) (fun K hK => ?_)
        refine skip_ (w1 := ?_) (by rfl) rfl ?_ ?_
        rotate_left
        · go_simp
          rfl
        refine hK.out _ _ ?_
        clear hK K
        refine done_ (by kernel_rfl) ?_
        have M3 := Aside0.mk (box_put2 L3.out (.slice A6 acc2.length c6))
        go_wp2
        go_roundg k1
        case measure => have := HK.out; omega
        case rel => exact ⟨j + 1, acc2, _, by first | rfl | simp [hw1], ⟨by omega⟩, H', ⟨by have := HK.out; omega⟩, HLB, ⟨blk_far L1.out N13.out _⟩, ⟨blk_far L2.out N23.out _⟩, M3, ⟨Kd.R_mono (Kd.R_far (p := ⟨g3, 2, none⟩) (Kd.R_types HO6.out L3.out (by decide)) (fun _ hk => hk.2) _) (fun _ _ => trivial)⟩, ⟨below_setB _ _ HB6.out G3.out⟩⟩
      · rw [if_neg hlt] at H
        obtain rfl := Option.some.inj H
        clear H
        obtain ⟨hc20, hc21, hc22, hf20, hf21, hf22⟩ := box3 BK2.out
        obtain ⟨hc30, hc31, hc32, hf30, hf31, hf32⟩ := box3 BK3.out
        obtain ⟨A9, c9, hu9⟩ := Kd.R_slice HO.out
        subst hu9
        have hj : ¬ j < (rows.length : Int) := hlt
        go_wp2
        refine bodyPost_ret (results_ct rfl _ _ g2 43 #[.int .i64 (rows.length : Int), .int .i64 m1, .slice A9 acc.length c9] (0, 0) _ rfl (box3_set BK2.out _ _ _) Tryd.underlying43 rfl (by kernel_rfl)) rfl ?_
        exact ⟨_, rfl, Kd.R_mono (Kd.R_far (Kd.R_far (Kd.R_far (Kd.R_types HO.out BK2.out (by decide)) (fun _ hk => hk.2) _) (fun _ hk => hk.2) _) (fun _ hk => hk.2) _) (fun _ _ => trivial), below_setB _ _ (below_setB _ _ (below_setB _ _ HB.out G2.out) G2.out) G2.out⟩

theorem mat_Take.mono_l : ∀ k, (∀ y0 y1 y2 y3 y4 y5, LeO (mat_Take.l0 k y0 y1 y2 y3 y4 y5) (mat_Take.l0 (k + 1) y0 y1 y2 y3 y4 y5))
  | 0 => fun _ _ _ _ _ _ r h => by simp [mat_Take.l0] at h
  | k + 1 => by
    have ih := mat_Take.mono_l k
    intro y0 y1 y2 y3 y4 y5
    unfold mat_Take.l0
    exact LeO.ite (LeO.bind (LeO.refl _) (fun _ => ih _ _ _ _ _ _)) (LeO.refl _)
theorem mat_Take.mono (m0 m1 : Int) (l rows : List Int) (k : Nat) : LeO (mat_Take.f k m0 m1 l rows) (mat_Take.f (k + 1) m0 m1 l rows) :=
  LeO.ite (LeO.ite (LeO.bind (mat_Take.mono_l k _ _ _ _ _ _) (fun _ => LeO.refl _)) (LeO.refl _)) (LeO.refl _)
theorem mat_Take.calls (k : Nat) (a0_0 : Int) (a0_1 : Int) (A0_2 : Option Addr) (c0_2 : Nat) (l0_2 : List Int) (A1 : Option Addr) (c1 : Nat) (l1 : List Int) (r1 : Int) (r2 : Int) (r3 : List Int) (r4 : Option Int) (w : World) (hr0_2 : Kd.C (Kd.int .u8) w A0_2 l0_2.length l0_2) (hc0_2 : l0_2.length ≤ c0_2) (hr1 : Kd.C (Kd.int .i64) w A1 l1.length l1) (hc1 : l1.length ≤ c1) (h : mat_Take.f k a0_0 a0_1 l0_2 l1 = some (r1, r2, r3, r4)) (hS : Sent mat_Take.L w) :
    Calls Tryd.prog 17 #[.agg #[.int .i64 a0_0, .int .i64 a0_1, .slice A0_2 l0_2.length c0_2], .slice A1 l1.length c1] w fun e w' => ∃ v2_ : Value, e = .returned (.tuple #[.agg #[.int .i64 r1, .int .i64 r2, v2_], errW r4]) ∧ Kd.R (Kd.int .u8) 5 w' w.heap.size (fun _ => True) v2_ r3 ∧ Below w.heap.size w w' := by
  unfold mat_Take.f at h
  by_cases h0 : l1.length ≤ 64
  rotate_left
  · rw [if_neg h0] at h; cases h
  by_cases h1 : mat_Check.f a0_0 a0_1 l0_2 = some none
  rotate_left
  · rw [if_pos h0, if_neg h1] at h; cases h
  rw [if_pos h0, if_pos h1] at h
  obtain ⟨a, ha, h⟩ := Option.bind_eq_some_iff.mp h
  obtain ⟨rfl, rfl, rfl, rfl⟩ : (l1.length : Int) = r1 ∧ a0_1 = r2 ∧ a = r3 ∧ none = r4 := by simpa using h
  rw [errW_none]
  exact mat_Take.go k a0_0 a0_1 A0_2 c0_2 l0_2 A1 c1 l1 a w hr0_2 hc0_2 hr1 hc1 h0 h1 ha hS

end Go.Proofs.YtndnedjclbigiaaDoor

namespace Go.Proofs.YtndnedjclbigiaaDoor.F
open Go.RowKit Go.Proofs.YtndnedjclbigiaaDoorW.PrintWords Go.Proofs.YtndnedjclbigiaaDoorW.PrintLast Go.Proofs.YtndnedjclbigiaaDoorW.PrintMore
attribute [local go_sem] max2_int min2_int max_two min_two max_three min_three max_four min_four   -- for this text's walks alone
set_option linter.unusedVariables false
set_option linter.unusedSimpArgs false
set_option linter.unusedSectionVars false
open Go.Proofs.YtndnedjclbigiaaDoor
variable [Errs]

/-! ### damage_Check: function 19 -/
def damage_Check.L : List Int := [1, 4]
def damage_Check.l0 : Nat → Int → Int → List Int → List Int → Int → Int → Option (Option Int)
  | 0, _, _, _, _, _, _ => none
  | k + 1, x0, x1, x2, x16, x17, x18 => if x18 < x17 then (if 0 ≤ x18 then (if x18 < (x16.length : Int) then (if (rd x16 x18) < 0 then (some (some 4)) else (if (rd x16 x18) ≥ (wrap64 (2 * (wrap64 (x0 + x1)))) then (some (some 4)) else (if x18 > 0 then (if 0 ≤ (wrap64 (x18 - 1)) then (if (wrap64 (x18 - 1)) < (x2.length : Int) then (if (rd x16 x18) ≤ (rd x2 (wrap64 (x18 - 1))) then (some (some 4)) else (damage_Check.l0 k x0 x1 x2 x16 x17 (wrap64 (x18 + 1)))) else (none)) else (none)) else (damage_Check.l0 k x0 x1 x2 x16 x17 (wrap64 (x18 + 1)))))) else (none)) else (none)) else (some none)
def damage_Check.f (k : Nat) (a0 : Int) (a1 : Int) (l2 : List Int) : Option (Option Int) := (base_Check.f a0 a1).bind fun t196 => (if t196.isNone = true then (damage_Check.l0 k a0 a1 l2 l2 (l2.length : Int) 0) else (some (some (t196.getD 0))))
theorem damage_Check.mono_l : ∀ k, (∀ y0 y1 y2 y3 y4 y5, LeO (damage_Check.l0 k y0 y1 y2 y3 y4 y5) (damage_Check.l0 (k + 1) y0 y1 y2 y3 y4 y5))
  | 0 => fun _ _ _ _ _ _ r h => by simp [damage_Check.l0] at h
  | k + 1 => by
    have ih0 := damage_Check.mono_l k
    · intro y0 y1 y2 y3 y4 y5
      unfold damage_Check.l0
      repeat' first
      | (with_reducible exact ih0 _ _ _ _ _ _)
      | (with_reducible exact LeO.refl _)
      | (with_reducible exact LeO.none _)
      | (with_reducible refine LeO.ite ?_ ?_)
      | (with_reducible refine LeO.bind ?_ (fun _ => ?_))
      | exact ih0 _ _ _ _ _ _
      | exact LeO.none _
      | refine LeO.ite ?_ ?_
      | refine LeO.bind ?_ (fun _ => ?_)
theorem damage_Check.mono : ∀ a0 a1 a2 k, LeO (damage_Check.f k a0 a1 a2) (damage_Check.f (k + 1) a0 a1 a2) := by
  intro a0 a1 a2 k
  have ih0 := damage_Check.mono_l k
  unfold damage_Check.f
  repeat' first
      | (with_reducible exact ih0 _ _ _ _ _ _)
      | (with_reducible exact LeO.refl _)
      | (with_reducible exact LeO.none _)
      | (with_reducible refine LeO.ite ?_ ?_)
      | (with_reducible refine LeO.bind ?_ (fun _ => ?_))
      | exact ih0 _ _ _ _ _ _
      | exact LeO.none _
      | refine LeO.ite ?_ ?_
      | refine LeO.bind ?_ (fun _ => ?_)
set_option maxHeartbeats 8000000 in
set_option maxRecDepth 100000 in
theorem damage_Check.calls (k : Nat) (a0 : Int) (a1 : Int) (A2 : Option Addr) (c2 : Nat) (l2 : List Int) (r : Option Int) (w : World) (hr2 : Kd.C (Kd.int .i64) w A2 l2.length l2) (hc2 : l2.length ≤ c2) (h : damage_Check.f k a0 a1 l2 = some r) (hS : Sent damage_Check.L w) :
    Calls Tryd.prog 19 #[.int .i64 a0, .int .i64 a1, .slice A2 l2.length c2] w fun e w' => e = .returned (errW r) ∧ Drawn0 w w' := by
  have hu30 := Tryd.underlying30
  have HR2 := Aside0.mk hr2
  have HC2 := Aside0.mk hc2
  clear hr2 hc2
  have HS := Aside0.mk hS
  have hgl4 := Sent.cell0 hS 4 2 rfl (by decide)
  simp only [errW_some] at hgl4
  clear hS
  have H : ((base_Check.f a0 a1).bind fun t196 => (if t196.isNone = true then (damage_Check.l0 k a0 a1 l2 l2 (l2.length : Int) 0) else (some (some (t196.getD 0))))) = some r := h
  clear h
  replace H := Option.bind_eq_some_iff.mp H
  obtain ⟨t196, A40, H⟩ := H
  replace H : (if t196.isNone = true then (damage_Check.l0 k a0 a1 l2 l2 (l2.length : Int) 0) else (some (some (t196.getD 0)))) = some r := H
  have A4 := Aside0.mk A40
  clear A40
  rcases t196 with _ | q197
  · have H1 : (damage_Check.l0 k a0 a1 l2 l2 (l2.length : Int) 0) = some r := by rw [if_pos (show (none : Option Int).isNone = true by rfl)] at H; exact H
    clear H
    have H := H1
    clear H1
    try simp only [errW_none, errW_some]
    have H' := Aside0.mk H
    clear H
    go_enter Tryd.func19, Tryd.ntmps19
    go_wp2_with (first | ((with_reducible refine gate_callee (f := 30) rfl ?_); refine goesL_ (some 12) rfl rfl Tryd.func30 (by kernel_rfl) rfl #[.int .i64 a0, .int .i64 a1] rfl (by (try simp only [List.map_toArray, List.map_cons, List.map_nil]); first | done | rfl | (simp only [List.length_drop, List.length_take]; rfl)) ?_; (with_reducible refine (base_Check.calls a0 a1 none _ A4.out (Sent.sub (show ∀ c, c ∈ base_Check.L → c ∈ damage_Check.L by decide) (by repeat (first | (with_reducible first | exact HS.out | apply Sent.drewN | apply Sent.drew) | exact HS.out)))).mono ?_); rintro e w' ⟨rfl, ⟨nd, rfl⟩⟩; refine ⟨_, rfl, ?_⟩; (try simp only [errW_none, errW_some])))
    go_loopg [18] k (fun kq v18 w' => ∃ (x18_1 : Int), v18 = .int .i64 x18_1 ∧ Aside0 (damage_Check.l0 kq a0 a1 l2 l2 (l2.length : Int) x18_1 = some r) ∧ Aside0 (kq ≤ k) ∧ Drawn0 w w')
    case atStart => exact ⟨(0), (by first | rfl | (simp; done) | (simp [*]; done)), H', ⟨Nat.le_refl _⟩, by repeat (first | exact Drawn0.refl _ | apply Drawn0.step)⟩
    case round =>
      clear H'
      try clear c1
      try clear q1
      try clear c2
      try clear p2
      try clear c3
      try clear q197
      obtain ⟨x18_1, rfl, HA, HK1, ⟨m1, rfl⟩⟩ := hrel
      cases gk with
      | zero => exact absurd HA.out (by simp [damage_Check.l0])
      | succ k1 =>
        have H := HA.out
        clear HA
        first | rw [damage_Check.l0] at H | simp only [damage_Check.l0] at H
        by_cases c5 : x18_1 < (l2.length : Int)
        · rw [if_pos c5] at H
          have c5b0 : decide (x18_1 < (l2.length : Int)) = true := decide_eq_true c5
          clear c5
          by_cases c6 : 0 ≤ x18_1
          · rw [if_pos c6] at H
            have c6b0 : decide (0 ≤ x18_1) = true := decide_eq_true c6
            clear c6
            by_cases c7 : x18_1 < (l2.length : Int)
            · rw [if_pos c7] at H
              have c7b0 : decide (x18_1 < (l2.length : Int)) = true := decide_eq_true c7
              clear c7
              by_cases c8 : (rd l2 x18_1) < 0
              · rw [if_pos c8] at H
                have c8b0 : decide ((rd l2 x18_1) < 0) = true := decide_eq_true c8
                clear c8
                obtain rfl := Option.some.inj H
                have p198 : 0 ≤ (x18_1 : Int) := of_decide_eq_true (by first | (with_reducible assumption) | assumption)
                have q198 : x18_1 < (l2.length : Int) := of_decide_eq_true (by first | (with_reducible assumption) | assumption)
                obtain ⟨ad198, e198, hx198_0⟩ := Kd.at_int HR2.out x18_1 p198 q198
                cases e198
                replace p198 := eq_true p198
                replace q198 := eq_true q198
                go_wp2
                go_ret
                exact ⟨by first | rfl | (simp; done) | (simp [*]; done), by repeat (first | exact Drawn0.refl _ | apply Drawn0.step)⟩
              · rw [if_neg c8] at H
                have c8b0 : decide ((rd l2 x18_1) < 0) = false := decide_eq_false c8
                clear c8
                by_cases c9 : (rd l2 x18_1) ≥ (wrap64 (2 * (wrap64 (a0 + a1))))
                · rw [if_pos c9] at H
                  have c9b0 : decide ((wrap64 (2 * (wrap64 (a0 + a1)))) ≤ (rd l2 x18_1)) = true := decide_eq_true c9
                  clear c9
                  obtain rfl := Option.some.inj H
                  have p198 : 0 ≤ (x18_1 : Int) := of_decide_eq_true (by first | (with_reducible assumption) | assumption)
                  have q198 : x18_1 < (l2.length : Int) := of_decide_eq_true (by first | (with_reducible assumption) | assumption)
                  obtain ⟨ad198, e198, hx198_0⟩ := Kd.at_int HR2.out x18_1 p198 q198
                  cases e198
                  replace p198 := eq_true p198
                  replace q198 := eq_true q198
                  go_wp2
                  go_ret
                  exact ⟨by first | rfl | (simp; done) | (simp [*]; done), by repeat (first | exact Drawn0.refl _ | apply Drawn0.step)⟩
                · rw [if_neg c9] at H
                  have c9b0 : decide ((wrap64 (2 * (wrap64 (a0 + a1)))) ≤ (rd l2 x18_1)) = false := decide_eq_false c9
                  clear c9
                  by_cases c10 : x18_1 > 0
                  · rw [if_pos c10] at H
                    have c10b0 : decide (0 < x18_1) = true := decide_eq_true c10
                    clear c10
                    obtain ⟨ji11, hji11⟩ : ∃ j_ : Int, (wrap64 (x18_1 - 1)) = j_ := ⟨_, rfl⟩
                    replace H : (if 0 ≤ (ji11) then (if (ji11) < (l2.length : Int) then (if (rd l2 x18_1) ≤ (rd l2 (ji11)) then (some (some 4)) else (damage_Check.l0 k1 a0 a1 l2 l2 (l2.length : Int) (wrap64 (x18_1 + 1)))) else (none)) else (none)) = some r := by first | (rw [hji11] at H; exact H) | (simp only [hji11] at H ⊢; exact H)
                    have hji11w : (IntKind.i64.wrap (x18_1 - 1)) = ji11 := (i64_w _).trans hji11
                    by_cases c12 : 0 ≤ (ji11)
                    · rw [if_pos c12] at H
                      have c12b0 : decide (0 ≤ (ji11)) = true := decide_eq_true c12
                      clear c12
                      by_cases c13 : (ji11) < (l2.length : Int)
                      · rw [if_pos c13] at H
                        have c13b0 : decide ((ji11) < (l2.length : Int)) = true := decide_eq_true c13
                        clear c13
                        by_cases c14 : (rd l2 x18_1) ≤ (rd l2 (ji11))
                        · rw [if_pos c14] at H
                          have c14b0 : decide ((rd l2 x18_1) ≤ (rd l2 (ji11))) = true := decide_eq_true c14
                          clear c14
                          obtain rfl := Option.some.inj H
                          have p198 : 0 ≤ (x18_1 : Int) := of_decide_eq_true (by first | (with_reducible assumption) | assumption)
                          have q198 : x18_1 < (l2.length : Int) := of_decide_eq_true (by first | (with_reducible assumption) | assumption)
                          obtain ⟨ad198, e198, hx198_0⟩ := Kd.at_int HR2.out x18_1 p198 q198
                          cases e198
                          replace p198 := eq_true p198
                          replace q198 := eq_true q198
                          have p199 : 0 ≤ ((ji11) : Int) := of_decide_eq_true (by first | (with_reducible assumption) | assumption)
                          have q199 : (ji11) < (l2.length : Int) := of_decide_eq_true (by first | (with_reducible assumption) | assumption)
                          obtain ⟨ad199, e199, hx199_0⟩ := Kd.at_int HR2.out (ji11) p199 q199
                          obtain rfl : ad198 = ad199 := (by injection e199)
                          replace p199 := eq_true p199
                          replace q199 := eq_true q199
                          go_wp2
                          go_ret
                          exact ⟨by first | rfl | (simp; done) | (simp only [← hji11] <;> (first | rfl | simp)) | (simp [*]; done), by repeat (first | exact Drawn0.refl _ | apply Drawn0.step)⟩
                        · rw [if_neg c14] at H
                          have c14b0 : decide ((rd l2 x18_1) ≤ (rd l2 (ji11))) = false := decide_eq_false c14
                          clear c14
                          have H' := Aside0.mk H
                          clear H
                          have p198 : 0 ≤ (x18_1 : Int) := of_decide_eq_true (by first | (with_reducible assumption) | assumption)
                          have q198 : x18_1 < (l2.length : Int) := of_decide_eq_true (by first | (with_reducible assumption) | assumption)
                          obtain ⟨ad198, e198, hx198_0⟩ := Kd.at_int HR2.out x18_1 p198 q198
                          cases e198
                          replace p198 := eq_true p198
                          replace q198 := eq_true q198
                          have p199 : 0 ≤ ((ji11) : Int) := of_decide_eq_true (by first | (with_reducible assumption) | assumption)
                          have q199 : (ji11) < (l2.length : Int) := of_decide_eq_true (by first | (with_reducible assumption) | assumption)
                          obtain ⟨ad199, e199, hx199_0⟩ := Kd.at_int HR2.out (ji11) p199 q199
                          obtain rfl : ad198 = ad199 := (by injection e199)
                          replace p199 := eq_true p199
                          replace q199 := eq_true q199
                          go_wp2
                          go_roundg k1
                          case measure => have := HK1.out; omega
                          case rel => exact ⟨(wrap64 (x18_1 + 1)), (by first | rfl | (simp; done) | (simp [*]; done)), H', ⟨by have := HK1.out; omega⟩, by repeat (first | exact Drawn0.refl _ | apply Drawn0.step)⟩
                      · rw [if_neg c13] at H
                        exact absurd H (by simp)
                    · rw [if_neg c12] at H
                      exact absurd H (by simp)
                  · rw [if_neg c10] at H
                    have c10b0 : decide (0 < x18_1) = false := decide_eq_false c10
                    clear c10
                    have H' := Aside0.mk H
                    clear H
                    have p198 : 0 ≤ (x18_1 : Int) := of_decide_eq_true (by first | (with_reducible assumption) | assumption)
                    have q198 : x18_1 < (l2.length : Int) := of_decide_eq_true (by first | (with_reducible assumption) | assumption)
                    obtain ⟨ad198, e198, hx198_0⟩ := Kd.at_int HR2.out x18_1 p198 q198
                    cases e198
                    replace p198 := eq_true p198
                    replace q198 := eq_true q198
                    go_wp2
                    go_roundg k1
                    case measure => have := HK1.out; omega
                    case rel => exact ⟨(wrap64 (x18_1 + 1)), (by first | rfl | (simp; done) | (simp [*]; done)), H', ⟨by have := HK1.out; omega⟩, by repeat (first | exact Drawn0.refl _ | apply Drawn0.step)⟩
            · rw [if_neg c7] at H
              exact absurd H (by simp)
          · rw [if_neg c6] at H
            exact absurd H (by simp)
        · rw [if_neg c5] at H
          have c5b0 : decide (x18_1 < (l2.length : Int)) = false := decide_eq_false c5
          clear c5
          obtain rfl := Option.some.inj H
          go_wp2
          go_ret
          exact ⟨by first | rfl | (simp; done) | (simp [*]; done), by repeat (first | exact Drawn0.refl _ | apply Drawn0.step)⟩
  · have H1 : (some (some q197)) = some r := by rw [if_neg (show ¬ (some q197).isNone = true by simp)] at H; exact H
    clear H
    have H := H1
    clear H1
    try simp only [errW_none, errW_some]
    obtain rfl := Option.some.inj H
    go_enter Tryd.func19, Tryd.ntmps19
    go_wp2_with (first | ((with_reducible refine gate_callee (f := 30) rfl ?_); refine goesL_ (some 12) rfl rfl Tryd.func30 (by kernel_rfl) rfl #[.int .i64 a0, .int .i64 a1] rfl (by (try simp only [List.map_toArray, List.map_cons, List.map_nil]); first | done | rfl | (simp only [List.length_drop, List.length_take]; rfl)) ?_; (with_reducible refine (base_Check.calls a0 a1 (some q197) _ A4.out (Sent.sub (show ∀ c, c ∈ base_Check.L → c ∈ damage_Check.L by decide) (by repeat (first | (with_reducible first | exact HS.out | apply Sent.drewN | apply Sent.drew) | exact HS.out)))).mono ?_); rintro e w' ⟨rfl, ⟨nd, rfl⟩⟩; refine ⟨_, rfl, ?_⟩; (try simp only [errW_none, errW_some])))
    go_ret
    exact ⟨by first | rfl | (simp; done) | (simp [*]; done), by repeat (first | exact Drawn0.refl _ | apply Drawn0.step)⟩

end Go.Proofs.YtndnedjclbigiaaDoor.F

namespace Go.Proofs
open Go.Shelf
def Tryd.lays169_ren : Go.Shelf.Ren := ⟨fun | 169 => 37 | n => n, fun | 70 => 71 | 9 => 9 | 0 => 0 | 72 => 73 | 37 => 41 | 127 => 96 | 3 => 3 | 5 => 5 | n => n, fun | n => n⟩
theorem Tryd.lays169 : Go.Proofs.Lays.n169 Tryd.prog Tryd.lays169_ren := {
  mixed := by kernel_rfl
  f169 := Tryd.func37.trans (congrArg some (by kernel_rfl))
  t0 := Tryd.underlying0
  a0 := Tryd.isAgg0
  z0 := Tryd.sizeOf0
  v0 := Tryd.zeroValue0
  t3 := Tryd.underlying3
  a3 := Tryd.isAgg3
  z3 := Tryd.sizeOf3
  v3 := Tryd.zeroValue3
  t9 := Tryd.underlying9
  a9 := Tryd.isAgg9
  z9 := Tryd.sizeOf9
  v9 := Tryd.zeroValue9
  t37 := Tryd.underlying41
  a37 := Tryd.isAgg41
  z37 := Tryd.sizeOf41
  v37 := Tryd.zeroValue41
  t70 := Tryd.underlying71
  a70 := Tryd.isAgg71
  z70 := Tryd.sizeOf71
  v70 := Tryd.zeroValue71
  t72 := Tryd.underlying73
  a72 := Tryd.isAgg73
  z72 := Tryd.sizeOf73
  v72 := Tryd.zeroValue73
  t127 := Tryd.underlying96
  a127 := Tryd.isAgg96
  z127 := Tryd.sizeOf96
  v127 := Tryd.zeroValue96 }
theorem Tryd.Builder_Extra_169 : Builder.Extra Tryd.prog Tryd.lays169_ren := {
  sizeBuilder := by kernel_rfl
  liesBuilder := by kernel_rfl
  t5 := Tryd.underlying5
  a5 := Tryd.isAgg5
  z5 := Tryd.sizeOf5
  v5 := Tryd.zeroValue5
  infoByte := by kernel_rfl
  cellsByte := by kernel_rfl
  sizeByte := by kernel_rfl
  neB5 := by decide }
open Go.RowKit in
/-- (*strings.Builder).String: "String returns the accumulated string.": OF A BUILDER THAT HOLDS AT LEAST ONE BYTE. ✋ THE MODEL FREEZES THOSE BYTES IN THE BUFFER (unsafe.String): a later write INTO them ends the model's run without an answer; a later append BEHIND them goes on. The statement's order of evaluation is drawn: one draw. (LAID: no walk: one application.) -/
theorem Tryd.Builder_String (B b : Nat) (l : List UInt8) (w : World) (h : Lib.IsBuilder 73 5 B b (Lib.byteCells l) w) (h0 : l ≠ []) :
    Calls Tryd.prog 37 #[.pointer (some ⟨b, 0, none⟩)] w fun e w' => e = .returned (.string ⟨l.toArray⟩) ∧ Below B w w' := Any.Builder_String Tryd.lays169 Tryd.Builder_Extra_169 B b l w h h0
open Go.RowKit in
/-- (*strings.Builder).String OF A BUILDER THAT HOLDS NO BYTE: the empty string. (Its buffer is nil, or a row of which it has taken nothing yet; where that row has NO capacity the model lays one new block for unsafe.SliceData's 'some address'.) One draw. (LAID: no walk: one application.) -/
theorem Tryd.Builder_String_empty (B b : Nat) (w : World) (h : Lib.IsBuilder 73 5 B b [] w) (hBw : B ≤ w.heap.size) :
    Calls Tryd.prog 37 #[.pointer (some ⟨b, 0, none⟩)] w fun e w' => e = .returned (.string ⟨#[]⟩) ∧ Below B w w' := Any.Builder_String_empty Tryd.lays169 Tryd.Builder_Extra_169 B b w h hBw
open Go.RowKit in
/-- (*strings.Builder).String: "String returns the accumulated string.": WHATEVER THE BUILDER HOLDS. (LAID: no walk: one application.) -/
theorem Tryd.Builder_String_any (B b : Nat) (l : List UInt8) (w : World) (h : Lib.IsBuilder 73 5 B b (Lib.byteCells l) w) (hBw : B ≤ w.heap.size) :
    Calls Tryd.prog 37 #[.pointer (some ⟨b, 0, none⟩)] w fun e w' => e = .returned (.string ⟨l.toArray⟩) ∧ Below B w w' := Any.Builder_String_any Tryd.lays169 Tryd.Builder_Extra_169 B b l w h hBw
def Tryd.lays241_ren : Go.Shelf.Ren := ⟨fun | 241 => 57 | 277 => 71 | n => n, fun | 70 => 71 | 3 => 3 | 0 => 0 | 72 => 73 | 37 => 41 | 5 => 5 | n => n, fun | n => n⟩
theorem Tryd.lays241 : Go.Proofs.Lays.n241 Tryd.prog Tryd.lays241_ren := {
  mixed := by kernel_rfl
  f241 := Tryd.func57.trans (congrArg some (by kernel_rfl))
  f277 := Tryd.func71.trans (congrArg some (by kernel_rfl))
  t0 := Tryd.underlying0
  a0 := Tryd.isAgg0
  z0 := Tryd.sizeOf0
  v0 := Tryd.zeroValue0
  t3 := Tryd.underlying3
  a3 := Tryd.isAgg3
  z3 := Tryd.sizeOf3
  v3 := Tryd.zeroValue3
  t37 := Tryd.underlying41
  a37 := Tryd.isAgg41
  z37 := Tryd.sizeOf41
  v37 := Tryd.zeroValue41
  t70 := Tryd.underlying71
  a70 := Tryd.isAgg71
  z70 := Tryd.sizeOf71
  v70 := Tryd.zeroValue71
  t72 := Tryd.underlying73
  a72 := Tryd.isAgg73
  z72 := Tryd.sizeOf73
  v72 := Tryd.zeroValue73 }
theorem Tryd.Builder_Extra_241 : Builder.Extra Tryd.prog Tryd.lays241_ren := {
  sizeBuilder := by kernel_rfl
  liesBuilder := by kernel_rfl
  t5 := Tryd.underlying5
  a5 := Tryd.isAgg5
  z5 := Tryd.sizeOf5
  v5 := Tryd.zeroValue5
  infoByte := by kernel_rfl
  cellsByte := by kernel_rfl
  sizeByte := by kernel_rfl
  neB5 := by decide }
open Go.RowKit in
/-- (*strings.Builder).grow (no doc but "grow copies the buffer to a new, larger buffer so that there are at least n bytes of capacity beyond len(b.buf)."): AT A BUILDER WITHOUT A BUFFER: a new row of whatever bytes for its buffer, none of them its own yet. Three draws. (LAID: no walk: one application.) -/
theorem Tryd.Builder_grow_fresh (B b n : Nat) (w : World) (hB : B ≤ b) (hbk : w.heap[b]? = some (.cells #[.pointer (some ⟨b, 0, none⟩), .slice none 0 0] 73 (0, 0))) (hBw : B ≤ w.heap.size) (hn : n ≤ 281474976710656) :
    Calls Tryd.prog 57 #[.pointer (some ⟨b, 0, none⟩), .int .i64 n] w fun e w' => e = .returned (.tuple #[]) ∧ (Lib.BuilderAt 73 5 B b (.pointer (some ⟨b, 0, none⟩)) [] w' ∧ Below B w w') := Any.Builder_grow_fresh Tryd.lays241 Tryd.Builder_Extra_241 B b n w hB hbk hBw hn
def Tryd.lays165_ren : Go.Shelf.Ren := ⟨fun | 165 => 35 | 240 => 56 | 241 => 57 | 276 => 70 | 277 => 71 | n => n, fun | 70 => 71 | 3 => 3 | 0 => 0 | 4 => 4 | 9 => 9 | 20 => 20 | 72 => 73 | 37 => 41 | 164 => 110 | 5 => 5 | n => n, fun | n => n⟩
theorem Tryd.lays165 : Go.Proofs.Lays.n165 Tryd.prog Tryd.lays165_ren := {
  mixed := by kernel_rfl
  f165 := Tryd.func35.trans (congrArg some (by kernel_rfl))
  f240 := Tryd.func56.trans (congrArg some (by kernel_rfl))
  f241 := Tryd.func57.trans (congrArg some (by kernel_rfl))
  f276 := Tryd.func70.trans (congrArg some (by kernel_rfl))
  f277 := Tryd.func71.trans (congrArg some (by kernel_rfl))
  t0 := Tryd.underlying0
  a0 := Tryd.isAgg0
  z0 := Tryd.sizeOf0
  v0 := Tryd.zeroValue0
  t3 := Tryd.underlying3
  a3 := Tryd.isAgg3
  z3 := Tryd.sizeOf3
  v3 := Tryd.zeroValue3
  t4 := Tryd.underlying4
  a4 := Tryd.isAgg4
  z4 := Tryd.sizeOf4
  v4 := Tryd.zeroValue4
  t9 := Tryd.underlying9
  a9 := Tryd.isAgg9
  z9 := Tryd.sizeOf9
  v9 := Tryd.zeroValue9
  t20 := Tryd.underlying20
  a20 := Tryd.isAgg20
  z20 := Tryd.sizeOf20
  v20 := Tryd.zeroValue20
  t37 := Tryd.underlying41
  a37 := Tryd.isAgg41
  z37 := Tryd.sizeOf41
  v37 := Tryd.zeroValue41
  t70 := Tryd.underlying71
  a70 := Tryd.isAgg71
  z70 := Tryd.sizeOf71
  v70 := Tryd.zeroValue71
  t72 := Tryd.underlying73
  a72 := Tryd.isAgg73
  z72 := Tryd.sizeOf73
  v72 := Tryd.zeroValue73
  t164 := Tryd.underlying110
  a164 := Tryd.isAgg110
  z164 := Tryd.sizeOf110
  v164 := Tryd.zeroValue110 }
theorem Tryd.Builder_Extra_165 : Builder.Extra Tryd.prog Tryd.lays165_ren := {
  sizeBuilder := by kernel_rfl
  liesBuilder := by kernel_rfl
  t5 := Tryd.underlying5
  a5 := Tryd.isAgg5
  z5 := Tryd.sizeOf5
  v5 := Tryd.zeroValue5
  infoByte := by kernel_rfl
  cellsByte := by kernel_rfl
  sizeByte := by kernel_rfl
  neB5 := by decide }
open Go.RowKit in
/-- (*strings.Builder).Grow AT A BUILDER THAT HAS NOT BEEN WRITTEN ('var b strings.Builder; b.Grow(n)'): "Grow grows b's capacity, if necessary, to guarantee space for another n bytes.": it holds no byte behind it as before it. (LAID: no walk: one application.) -/
theorem Tryd.Builder_Grow_fresh (B b n : Nat) (w : World) (hB : B ≤ b) (hbk : w.heap[b]? = some (.cells #[.pointer none, .slice none 0 0] 73 (0, 0))) (hBw : B ≤ w.heap.size) (hn : n ≤ 281474976710656) :
    Calls Tryd.prog 35 #[.pointer (some ⟨b, 0, none⟩), .int .i64 n] w fun e w' => e = .returned (.tuple #[]) ∧ (Lib.BuilderAt 73 5 B b (.pointer (some ⟨b, 0, none⟩)) [] w' ∧ Below B w w') := Any.Builder_Grow_fresh Tryd.lays165 Tryd.Builder_Extra_165 B b n w hB hbk hBw hn
def Tryd.lays156_ren : Go.Shelf.Ren := ⟨fun | 156 => 22 | 165 => 35 | 166 => 36 | 169 => 37 | 240 => 56 | 241 => 57 | 276 => 70 | 277 => 71 | n => n, fun | 31 => 52 | 9 => 9 | 3 => 3 | 4 => 4 | 0 => 0 | 20 => 20 | 72 => 73 | 76 => 37 | 70 => 71 | 37 => 41 | 75 => 30 | 127 => 96 | 164 => 110 | 5 => 5 | 80 => 76 | n => n, fun | n => n⟩
theorem Tryd.lays156 : Go.Proofs.Lays.n156 Tryd.prog Tryd.lays156_ren := {
  mixed := by kernel_rfl
  f156 := Tryd.func22.trans (congrArg some (by kernel_rfl))
  f165 := Tryd.func35.trans (congrArg some (by kernel_rfl))
  f166 := Tryd.func36.trans (congrArg some (by kernel_rfl))
  f169 := Tryd.func37.trans (congrArg some (by kernel_rfl))
  f240 := Tryd.func56.trans (congrArg some (by kernel_rfl))
  f241 := Tryd.func57.trans (congrArg some (by kernel_rfl))
  f276 := Tryd.func70.trans (congrArg some (by kernel_rfl))
  f277 := Tryd.func71.trans (congrArg some (by kernel_rfl))
  t0 := Tryd.underlying0
  a0 := Tryd.isAgg0
  z0 := Tryd.sizeOf0
  v0 := Tryd.zeroValue0
  t3 := Tryd.underlying3
  a3 := Tryd.isAgg3
  z3 := Tryd.sizeOf3
  v3 := Tryd.zeroValue3
  t4 := Tryd.underlying4
  a4 := Tryd.isAgg4
  z4 := Tryd.sizeOf4
  v4 := Tryd.zeroValue4
  t9 := Tryd.underlying9
  a9 := Tryd.isAgg9
  z9 := Tryd.sizeOf9
  v9 := Tryd.zeroValue9
  t20 := Tryd.underlying20
  a20 := Tryd.isAgg20
  z20 := Tryd.sizeOf20
  v20 := Tryd.zeroValue20
  t31 := Tryd.underlying52
  a31 := Tryd.isAgg52
  z31 := Tryd.sizeOf52
  v31 := Tryd.zeroValue52
  t37 := Tryd.underlying41
  a37 := Tryd.isAgg41
  z37 := Tryd.sizeOf41
  v37 := Tryd.zeroValue41
  t70 := Tryd.underlying71
  a70 := Tryd.isAgg71
  z70 := Tryd.sizeOf71
  v70 := Tryd.zeroValue71
  t72 := Tryd.underlying73
  a72 := Tryd.isAgg73
  z72 := Tryd.sizeOf73
  v72 := Tryd.zeroValue73
  t75 := Tryd.underlying30
  a75 := Tryd.isAgg30
  z75 := Tryd.sizeOf30
  v75 := Tryd.zeroValue30
  t76 := Tryd.underlying37
  a76 := Tryd.isAgg37
  z76 := Tryd.sizeOf37
  v76 := Tryd.zeroValue37
  t127 := Tryd.underlying96
  a127 := Tryd.isAgg96
  z127 := Tryd.sizeOf96
  v127 := Tryd.zeroValue96
  t164 := Tryd.underlying110
  a164 := Tryd.isAgg110
  z164 := Tryd.sizeOf110
  v164 := Tryd.zeroValue110 }
theorem Tryd.Builder_Extra_156 : Builder.Extra Tryd.prog Tryd.lays156_ren := {
  sizeBuilder := by kernel_rfl
  liesBuilder := by kernel_rfl
  t5 := Tryd.underlying5
  a5 := Tryd.isAgg5
  z5 := Tryd.sizeOf5
  v5 := Tryd.zeroValue5
  infoByte := by kernel_rfl
  cellsByte := by kernel_rfl
  sizeByte := by kernel_rfl
  neB5 := by decide }
open Go.RowKit in
/-- No element: the empty string; the world is as it was. (Whatever the slice's address and capacity: a nil slice too.) (LAID: no walk: one application.) -/
theorem Tryd.strings_Join_none (a : Option Addr) (c : Nat) (sep : ByteArray) (w : World) :
    Calls Tryd.prog 22 #[.slice a 0 c, .string sep] w fun e w' => e = .returned (.string ⟨#[]⟩) ∧ w' = w := Any.strings_Join_none Tryd.lays156 Tryd.Builder_Extra_156 a c sep w
open Go.RowKit in
/-- strings.Join: "Join concatenates the elements of its first argument to create a single string. The separator string sep is placed between elements in the resulting string.": HOWEVER MANY ELEMENTS. Below the heap's end the world is as it was. (LAID: no walk: one application.) -/
theorem Tryd.strings_Join (bk o c : Nat) (xs : List ByteArray) (sep : ByteArray) (w : World) (hcells : ∀ (j : Nat) x, xs[j]? = some x → w.cell? ⟨bk, o + j, none⟩ = some (.string x)) (hbk : bk < w.heap.size) (hN : xs.length ≤ 140737488355328) (hcap : xs.length ≤ c) (hlen : (Lib.join (xs.map (·.data.toList)) sep.data.toList).length ≤ 140737488355328) :
    Calls Tryd.prog 22 #[.slice (some ⟨bk, o, none⟩) xs.length c, .string sep] w fun e w' => e = .returned (.string ⟨(Lib.join (xs.map (·.data.toList)) sep.data.toList).toArray⟩) ∧ Below w.heap.size w w' := Any.strings_Join Tryd.lays156 Tryd.Builder_Extra_156 bk o c xs sep w hcells hbk hN hcap hlen
def Tryd.lays128_ren : Go.Shelf.Ren := ⟨fun | 128 => 53 | n => n, fun | 51 => 93 | 3 => 3 | 4 => 4 | 46 => 68 | 5 => 5 | 9 => 9 | n => n, fun | n => n⟩
theorem Tryd.lays128 : Go.Proofs.Lays.n128 Tryd.prog Tryd.lays128_ren := {
  mixed := by kernel_rfl
  f128 := Tryd.func53.trans (congrArg some (by kernel_rfl))
  t3 := Tryd.underlying3
  a3 := Tryd.isAgg3
  z3 := Tryd.sizeOf3
  v3 := Tryd.zeroValue3
  t4 := Tryd.underlying4
  a4 := Tryd.isAgg4
  z4 := Tryd.sizeOf4
  v4 := Tryd.zeroValue4
  t5 := Tryd.underlying5
  a5 := Tryd.isAgg5
  z5 := Tryd.sizeOf5
  v5 := Tryd.zeroValue5
  t9 := Tryd.underlying9
  a9 := Tryd.isAgg9
  z9 := Tryd.sizeOf9
  v9 := Tryd.zeroValue9
  t46 := Tryd.underlying68
  a46 := Tryd.isAgg68
  z46 := Tryd.sizeOf68
  v46 := Tryd.zeroValue68
  t51 := Tryd.underlying93
  a51 := Tryd.isAgg93
  z51 := Tryd.sizeOf93
  v51 := Tryd.zeroValue93 }
/-- bits.Len32: "Len32 returns the minimum number of bits required to represent x; the result is 0 for x == 0.": IT RETURNS 'Lib.bitLen x'; the world is as it was. ('h0', 'h1': x is a uint32.) (LAID: no walk: one application.) -/
theorem Tryd.bits_Len32 (x : Int) (w : World) (h0 : 0 ≤ x) (h1 : x ≤ 4294967295) :
    Calls Tryd.prog 53 #[.int .u32 x] w fun e w' => e = .returned (.int .i64 (Lib.bitLen x.toNat)) ∧ w' = w := Any.bits_Len32 Tryd.lays128 x w h0 h1
def Tryd.lays125_ren : Go.Shelf.Ren := ⟨fun | 125 => 32 | 128 => 53 | 129 => 54 | n => n, fun | 46 => 68 | 3 => 3 | 51 => 93 | 53 => 95 | 4 => 4 | 5 => 5 | 9 => 9 | n => n, fun | n => n⟩
theorem Tryd.lays125 : Go.Proofs.Lays.n125 Tryd.prog Tryd.lays125_ren := {
  mixed := by kernel_rfl
  f125 := Tryd.func32.trans (congrArg some (by kernel_rfl))
  f128 := Tryd.func53.trans (congrArg some (by kernel_rfl))
  f129 := Tryd.func54.trans (congrArg some (by kernel_rfl))
  t3 := Tryd.underlying3
  a3 := Tryd.isAgg3
  z3 := Tryd.sizeOf3
  v3 := Tryd.zeroValue3
  t4 := Tryd.underlying4
  a4 := Tryd.isAgg4
  z4 := Tryd.sizeOf4
  v4 := Tryd.zeroValue4
  t5 := Tryd.underlying5
  a5 := Tryd.isAgg5
  z5 := Tryd.sizeOf5
  v5 := Tryd.zeroValue5
  t9 := Tryd.underlying9
  a9 := Tryd.isAgg9
  z9 := Tryd.sizeOf9
  v9 := Tryd.zeroValue9
  t46 := Tryd.underlying68
  a46 := Tryd.isAgg68
  z46 := Tryd.sizeOf68
  v46 := Tryd.zeroValue68
  t51 := Tryd.underlying93
  a51 := Tryd.isAgg93
  z51 := Tryd.sizeOf93
  v51 := Tryd.zeroValue93
  t53 := Tryd.underlying95
  a53 := Tryd.isAgg95
  z53 := Tryd.sizeOf95
  v53 := Tryd.zeroValue95 }
/-- bits.Len: "Len returns the minimum number of bits required to represent x; the result is 0 for x == 0.": IT RETURNS 'Lib.bitLen x'; the world is as it was. (A uint has 64 bits in the model.) ITS CALLEE bits.Len64 IS MET BY ITS OWN CONTRACT OFF THE SHELF (lay that first). (LAID: no walk: one application.) -/
theorem Tryd.bits_Len (x : Int) (w : World) (h0 : 0 ≤ x) (h1 : x ≤ 18446744073709551615) :
    Calls Tryd.prog 32 #[.int .u64 x] w fun e w' => e = .returned (.int .i64 (Lib.bitLen x.toNat)) ∧ w' = w := Any.bits_Len Tryd.lays125 x w h0 h1
def Tryd.lays129_ren : Go.Shelf.Ren := ⟨fun | 129 => 54 | n => n, fun | 53 => 95 | 3 => 3 | 4 => 4 | 46 => 68 | 5 => 5 | 9 => 9 | n => n, fun | n => n⟩
theorem Tryd.lays129 : Go.Proofs.Lays.n129 Tryd.prog Tryd.lays129_ren := {
  mixed := by kernel_rfl
  f129 := Tryd.func54.trans (congrArg some (by kernel_rfl))
  t3 := Tryd.underlying3
  a3 := Tryd.isAgg3
  z3 := Tryd.sizeOf3
  v3 := Tryd.zeroValue3
  t4 := Tryd.underlying4
  a4 := Tryd.isAgg4
  z4 := Tryd.sizeOf4
  v4 := Tryd.zeroValue4
  t5 := Tryd.underlying5
  a5 := Tryd.isAgg5
  z5 := Tryd.sizeOf5
  v5 := Tryd.zeroValue5
  t9 := Tryd.underlying9
  a9 := Tryd.isAgg9
  z9 := Tryd.sizeOf9
  v9 := Tryd.zeroValue9
  t46 := Tryd.underlying68
  a46 := Tryd.isAgg68
  z46 := Tryd.sizeOf68
  v46 := Tryd.zeroValue68
  t53 := Tryd.underlying95
  a53 := Tryd.isAgg95
  z53 := Tryd.sizeOf95
  v53 := Tryd.zeroValue95 }
/-- bits.Len64: "Len64 returns the minimum number of bits required to represent x; the result is 0 for x == 0.": IT RETURNS 'Lib.bitLen x'; the world is as it was. ('h0', 'h1': x is a uint64.) (LAID: no walk: one application.) -/
theorem Tryd.bits_Len64 (x : Int) (w : World) (h0 : 0 ≤ x) (h1 : x ≤ 18446744073709551615) :
    Calls Tryd.prog 54 #[.int .u64 x] w fun e w' => e = .returned (.int .i64 (Lib.bitLen x.toNat)) ∧ w' = w := Any.bits_Len64 Tryd.lays129 x w h0 h1
def Tryd.lays317_ren : Go.Shelf.Ren := ⟨fun | 317 => 84 | n => n, fun | 3 => 3 | 46 => 68 | n => n, fun | n => n⟩
theorem Tryd.lays317 : Go.Proofs.Lays.n317 Tryd.prog Tryd.lays317_ren := {
  mixed := by kernel_rfl
  f317 := Tryd.func84.trans (congrArg some (by kernel_rfl))
  t3 := Tryd.underlying3
  a3 := Tryd.isAgg3
  z3 := Tryd.sizeOf3
  v3 := Tryd.zeroValue3
  t46 := Tryd.underlying68
  a46 := Tryd.isAgg68
  z46 := Tryd.sizeOf68
  v46 := Tryd.zeroValue68 }
open Go.Lib in
/-- internal/strconv.log10Pow2: "log10Pow2(x) returns ⌊log₁₀ 2**x⌋ = ⌊x * log₁₀ 2⌋.": '(x * 78913) >> 18', at an x up to 64 (a length in bits). The world is as it was. (LAID: no walk: one application.) -/
theorem Tryd.internal_strconv_log10Pow2 (x : Nat) (h : x ≤ 64) (w : World) :
    Calls Tryd.prog 84 #[.int .i64 x] w fun e w' => e = .returned (.int .i64 (Lib.l10 x)) ∧ w' = w := Any.internal_strconv_log10Pow2 Tryd.lays317 x h w
def Tryd.lays318_ren : Go.Shelf.Ren := ⟨fun | 318 => 85 | n => n, fun | 3 => 3 | 4 => 4 | n => n, fun | n => n⟩
theorem Tryd.lays318 : Go.Proofs.Lays.n318 Tryd.prog Tryd.lays318_ren := {
  mixed := by kernel_rfl
  f318 := Tryd.func85.trans (congrArg some (by kernel_rfl))
  t3 := Tryd.underlying3
  a3 := Tryd.isAgg3
  z3 := Tryd.sizeOf3
  v3 := Tryd.zeroValue3
  t4 := Tryd.underlying4
  a4 := Tryd.isAgg4
  z4 := Tryd.sizeOf4
  v4 := Tryd.zeroValue4 }
open Go.Lib in
/-- internal/strconv.bool2: "bool2 converts b to an integer: 1 for true, 0 for false." The world is as it was. (LAID: no walk: one application.) -/
theorem Tryd.internal_strconv_bool2_int (b : Bool) (w : World) :
    Calls Tryd.prog 85 #[.bool b] w fun e w' => e = .returned (.int .i64 (if b then 1 else 0)) ∧ w' = w := Any.internal_strconv_bool2_int Tryd.lays318 b w
def Tryd.lays283_ren : Go.Shelf.Ren := ⟨fun | 283 => 77 | n => n, fun | 3 => 3 | 9 => 9 | 4 => 4 | n => n, fun | n => n⟩
theorem Tryd.lays283 : Go.Proofs.Lays.n283 Tryd.prog Tryd.lays283_ren := {
  mixed := by kernel_rfl
  f283 := Tryd.func77.trans (congrArg some (by kernel_rfl))
  t3 := Tryd.underlying3
  a3 := Tryd.isAgg3
  z3 := Tryd.sizeOf3
  v3 := Tryd.zeroValue3
  t4 := Tryd.underlying4
  a4 := Tryd.isAgg4
  z4 := Tryd.sizeOf4
  v4 := Tryd.zeroValue4
  t9 := Tryd.underlying9
  a9 := Tryd.isAgg9
  z9 := Tryd.sizeOf9
  v9 := Tryd.zeroValue9 }
open Go.Lib in
/-- internal/strconv.small: "small returns the string for an i with 0 <= i < nSmalls.": i's decimal numeral. The world is as it was. (LAID: no walk: one application.) -/
theorem Tryd.internal_strconv_small (i : Nat) (h : i < 100) (w : World) :
    Calls Tryd.prog 77 #[.int .i64 i] w fun e w' => e = .returned (.string ⟨(Lib.decDigits i).toArray⟩) ∧ w' = w := Any.internal_strconv_small Tryd.lays283 i h w
def Tryd.laysM284_ren : Go.Shelf.Ren := ⟨fun | 284 => 78 | 129 => 54 | 317 => 84 | 318 => 85 | n => n, fun | 53 => 95 | 3 => 3 | 212 => 129 | 0 => 0 | 4 => 4 | 46 => 68 | 5 => 5 | 9 => 9 | n => n, fun | 17 => 5 | n => n⟩
theorem Tryd.laysM284 : Go.Proofs.LaysM.n284 Tryd.prog Tryd.laysM284_ren := {
  mixed := by kernel_rfl
  f129 := Tryd.func54.trans (congrArg some (by kernel_rfl))
  f284 := Tryd.func78.trans (congrArg some (by kernel_rfl))
  f317 := Tryd.func84.trans (congrArg some (by kernel_rfl))
  f318 := Tryd.func85.trans (congrArg some (by kernel_rfl))
  t0 := Tryd.underlying0
  a0 := Tryd.isAgg0
  z0 := Tryd.sizeOf0
  v0 := Tryd.zeroValue0
  t3 := Tryd.underlying3
  a3 := Tryd.isAgg3
  z3 := Tryd.sizeOf3
  v3 := Tryd.zeroValue3
  t4 := Tryd.underlying4
  a4 := Tryd.isAgg4
  z4 := Tryd.sizeOf4
  v4 := Tryd.zeroValue4
  t5 := Tryd.underlying5
  a5 := Tryd.isAgg5
  z5 := Tryd.sizeOf5
  v5 := Tryd.zeroValue5
  t9 := Tryd.underlying9
  a9 := Tryd.isAgg9
  z9 := Tryd.sizeOf9
  v9 := Tryd.zeroValue9
  t46 := Tryd.underlying68
  a46 := Tryd.isAgg68
  z46 := Tryd.sizeOf68
  v46 := Tryd.zeroValue68
  t53 := Tryd.underlying95
  a53 := Tryd.isAgg95
  z53 := Tryd.sizeOf95
  v53 := Tryd.zeroValue95
  t212 := Tryd.underlying129
  a212 := Tryd.isAgg129
  z212 := Tryd.sizeOf129
  v212 := Tryd.zeroValue129
  g17 := by kernel_rfl
  i0 := by kernel_rfl
  i3 := by kernel_rfl
  i4 := by kernel_rfl
  i5 := by kernel_rfl
  i9 := by kernel_rfl
  i46 := by kernel_rfl
  i53 := by kernel_rfl
  i212 := by kernel_rfl
  m17 := by kernel_rfl }
open Go.Lib in
/-- internal/strconv.numDigits, at a d that is not 0: THE NUMBER OF d's DECIMAL DIGITS. The world is as it was. (LAID: no walk: one application.) -/
theorem Tryd.internal_strconv_numDigits (u : Nat) (h1 : 1 ≤ u) (h2 : u < 18446744073709551616) (w : World) (htab : Lib.TabIs Tryd.prog w "internal/strconv.uint64pow10" .u64 Lib.pow10Tab) :
    Calls Tryd.prog 78 #[.int .u64 u] w fun e w' => e = .returned (.int .i64 (Lib.nDigits u)) ∧ w' = w := Any.internal_strconv_numDigits Tryd.laysM284 u h1 h2 w htab
def Tryd.lays285_ren : Go.Shelf.Ren := ⟨fun | 285 => 79 | n => n, fun | 37 => 41 | 53 => 95 | 3 => 3 | 4 => 4 | 51 => 93 | 9 => 9 | 5 => 5 | 0 => 0 | n => n, fun | n => n⟩
theorem Tryd.lays285 : Go.Proofs.Lays.n285 Tryd.prog Tryd.lays285_ren := {
  mixed := by kernel_rfl
  f285 := Tryd.func79.trans (congrArg some (by kernel_rfl))
  t0 := Tryd.underlying0
  a0 := Tryd.isAgg0
  z0 := Tryd.sizeOf0
  v0 := Tryd.zeroValue0
  t3 := Tryd.underlying3
  a3 := Tryd.isAgg3
  z3 := Tryd.sizeOf3
  v3 := Tryd.zeroValue3
  t4 := Tryd.underlying4
  a4 := Tryd.isAgg4
  z4 := Tryd.sizeOf4
  v4 := Tryd.zeroValue4
  t5 := Tryd.underlying5
  a5 := Tryd.isAgg5
  z5 := Tryd.sizeOf5
  v5 := Tryd.zeroValue5
  t9 := Tryd.underlying9
  a9 := Tryd.isAgg9
  z9 := Tryd.sizeOf9
  v9 := Tryd.zeroValue9
  t37 := Tryd.underlying41
  a37 := Tryd.isAgg41
  z37 := Tryd.sizeOf41
  v37 := Tryd.zeroValue41
  t51 := Tryd.underlying93
  a51 := Tryd.isAgg93
  z51 := Tryd.sizeOf93
  v51 := Tryd.zeroValue93
  t53 := Tryd.underlying95
  a53 := Tryd.isAgg95
  z53 := Tryd.sizeOf95
  v53 := Tryd.zeroValue95 }
open Go.RowKit Go.Sort Go.Lib in
/-- internal/strconv.formatBase10: "formatBase10 formats the decimal representation of u into a. The caller is responsible for ensuring that a is big enough to hold u. If a is too big, leading zeros will be filled in as needed.": THE ROW HOLDS u's DIGITS ('FmtInv .. 0 ..': every place t holds 'dg u (len - 1 - t)'); all else is as it was but for the count of draws. (LAID: no walk: one application.) -/
theorem Tryd.internal_strconv_formatBase10 (blk off cap : Nat) (u : Nat) (d : Array UInt8) (w : World) (hH : Holds (fun (b : UInt8) => Value.int .u8 (b.toNat : Int)) w blk off d) (hu : u < 10 ^ d.size) (hu64 : u < 18446744073709551616) (hsz : d.size < 4611686018427387904) :
    Calls Tryd.prog 79 #[.slice (some ⟨blk, off, none⟩) d.size cap, .int .u64 u] w fun e w' =>
      e = .returned (.tuple #[]) ∧ ∃ (n v' : Nat) (dk : Array UInt8), w' = (putRow (fun (b : UInt8) => Value.int .u8 (b.toNat : Int)) w blk off dk).drewN n ∧ FmtInv d.size u 0 v' dk := Any.internal_strconv_formatBase10 Tryd.lays285 blk off cap u d w hH hu hu64 hsz
def Tryd.laysM246_ren : Go.Shelf.Ren := ⟨fun | 246 => 69 | 283 => 77 | 284 => 78 | 285 => 79 | 286 => 80 | 129 => 54 | 317 => 84 | 318 => 85 | 319 => 86 | 320 => 87 | 337 => 89 | 338 => 90 | n => n, fun | 2 => 2 | 3 => 3 | 9 => 9 | 4 => 4 | 171 => 120 | 0 => 0 | 53 => 95 | 37 => 41 | 5 => 5 | 173 => 122 | 212 => 129 | 51 => 93 | 20 => 20 | 213 => 130 | 46 => 68 | 232 => 131 | 233 => 132 | n => n, fun | 17 => 5 | 18 => 6 | 19 => 7 | n => n⟩
theorem Tryd.laysM246 : Go.Proofs.LaysM.n246 Tryd.prog Tryd.laysM246_ren := {
  mixed := by kernel_rfl
  f129 := Tryd.func54.trans (congrArg some (by kernel_rfl))
  f246 := Tryd.func69.trans (congrArg some (by kernel_rfl))
  f283 := Tryd.func77.trans (congrArg some (by kernel_rfl))
  f284 := Tryd.func78.trans (congrArg some (by kernel_rfl))
  f285 := Tryd.func79.trans (congrArg some (by kernel_rfl))
  f286 := Tryd.func80.trans (congrArg some (by kernel_rfl))
  f317 := Tryd.func84.trans (congrArg some (by kernel_rfl))
  f318 := Tryd.func85.trans (congrArg some (by kernel_rfl))
  f319 := Tryd.func86.trans (congrArg some (by kernel_rfl))
  f320 := Tryd.func87.trans (congrArg some (by kernel_rfl))
  f337 := Tryd.func89.trans (congrArg some (by kernel_rfl))
  f338 := Tryd.func90.trans (congrArg some (by kernel_rfl))
  t0 := Tryd.underlying0
  a0 := Tryd.isAgg0
  z0 := Tryd.sizeOf0
  v0 := Tryd.zeroValue0
  t2 := Tryd.underlying2
  a2 := Tryd.isAgg2
  z2 := Tryd.sizeOf2
  v2 := Tryd.zeroValue2
  t3 := Tryd.underlying3
  a3 := Tryd.isAgg3
  z3 := Tryd.sizeOf3
  v3 := Tryd.zeroValue3
  t4 := Tryd.underlying4
  a4 := Tryd.isAgg4
  z4 := Tryd.sizeOf4
  v4 := Tryd.zeroValue4
  t5 := Tryd.underlying5
  a5 := Tryd.isAgg5
  z5 := Tryd.sizeOf5
  v5 := Tryd.zeroValue5
  t9 := Tryd.underlying9
  a9 := Tryd.isAgg9
  z9 := Tryd.sizeOf9
  v9 := Tryd.zeroValue9
  t20 := Tryd.underlying20
  a20 := Tryd.isAgg20
  z20 := Tryd.sizeOf20
  v20 := Tryd.zeroValue20
  t37 := Tryd.underlying41
  a37 := Tryd.isAgg41
  z37 := Tryd.sizeOf41
  v37 := Tryd.zeroValue41
  t46 := Tryd.underlying68
  a46 := Tryd.isAgg68
  z46 := Tryd.sizeOf68
  v46 := Tryd.zeroValue68
  t51 := Tryd.underlying93
  a51 := Tryd.isAgg93
  z51 := Tryd.sizeOf93
  v51 := Tryd.zeroValue93
  t53 := Tryd.underlying95
  a53 := Tryd.isAgg95
  z53 := Tryd.sizeOf95
  v53 := Tryd.zeroValue95
  t171 := Tryd.underlying120
  a171 := Tryd.isAgg120
  z171 := Tryd.sizeOf120
  v171 := Tryd.zeroValue120
  t173 := Tryd.underlying122
  a173 := Tryd.isAgg122
  z173 := Tryd.sizeOf122
  v173 := Tryd.zeroValue122
  t212 := Tryd.underlying129
  a212 := Tryd.isAgg129
  z212 := Tryd.sizeOf129
  v212 := Tryd.zeroValue129
  t213 := Tryd.underlying130
  a213 := Tryd.isAgg130
  z213 := Tryd.sizeOf130
  t232 := Tryd.underlying131
  a232 := Tryd.isAgg131
  z232 := Tryd.sizeOf131
  v232 := Tryd.zeroValue131
  t233 := Tryd.underlying132
  a233 := Tryd.isAgg132
  z233 := Tryd.sizeOf132
  v233 := Tryd.zeroValue132
  g17 := by kernel_rfl
  g18 := by kernel_rfl
  g19 := by kernel_rfl
  i0 := by kernel_rfl
  i2 := by kernel_rfl
  i3 := by kernel_rfl
  i4 := by kernel_rfl
  i5 := by kernel_rfl
  i9 := by kernel_rfl
  i20 := by kernel_rfl
  i37 := by kernel_rfl
  i46 := by kernel_rfl
  i51 := by kernel_rfl
  i53 := by kernel_rfl
  i171 := by kernel_rfl
  i173 := by kernel_rfl
  i212 := by kernel_rfl
  i232 := by kernel_rfl
  i233 := by kernel_rfl
  m17 := by kernel_rfl
  m18 := by kernel_rfl
  m19 := by kernel_rfl }
open Go.RowKit Go.Sort Go.Lib in
/-- internal/strconv.FormatInt: "FormatInt returns the string representation of i in the given base": AT BASE 10: i's decimal numeral, for every int64. The world behind the call: the world before it, new blocks behind the heap, draws. (LAID: no walk: one application.) -/
theorem Tryd.internal_strconv_FormatInt_10 (n : Int) (h0 : -9223372036854775808 ≤ n) (h1 : n ≤ 9223372036854775807) (w : World) (htab : Lib.TabIs Tryd.prog w "internal/strconv.uint64pow10" .u64 Lib.pow10Tab) :
    Calls Tryd.prog 69 #[.int .i64 n, .int .i64 10] w fun e w' => e = .returned (.string ⟨(Lib.itoa n).toArray⟩) ∧ ∃ k os, w' = grow (w.drewN k) os := Any.internal_strconv_FormatInt_10 Tryd.laysM246 n h0 h1 w htab
def Tryd.lays246_ren : Go.Shelf.Ren := ⟨fun | 246 => 69 | 283 => 77 | 284 => 78 | 285 => 79 | 286 => 80 | 129 => 54 | 317 => 84 | 318 => 85 | 319 => 86 | 320 => 87 | 337 => 89 | 338 => 90 | n => n, fun | 2 => 2 | 3 => 3 | 9 => 9 | 4 => 4 | 171 => 120 | 0 => 0 | 53 => 95 | 37 => 41 | 5 => 5 | 173 => 122 | 212 => 129 | 51 => 93 | 20 => 20 | 213 => 130 | 46 => 68 | 232 => 131 | 233 => 132 | n => n, fun | 17 => 5 | 18 => 6 | 19 => 7 | n => n⟩
theorem Tryd.lays246 : Go.Proofs.Lays.n246 Tryd.prog Tryd.lays246_ren := {
  mixed := by kernel_rfl
  f129 := Tryd.func54.trans (congrArg some (by kernel_rfl))
  f246 := Tryd.func69.trans (congrArg some (by kernel_rfl))
  f283 := Tryd.func77.trans (congrArg some (by kernel_rfl))
  f284 := Tryd.func78.trans (congrArg some (by kernel_rfl))
  f285 := Tryd.func79.trans (congrArg some (by kernel_rfl))
  f286 := Tryd.func80.trans (congrArg some (by kernel_rfl))
  f317 := Tryd.func84.trans (congrArg some (by kernel_rfl))
  f318 := Tryd.func85.trans (congrArg some (by kernel_rfl))
  f319 := Tryd.func86.trans (congrArg some (by kernel_rfl))
  f320 := Tryd.func87.trans (congrArg some (by kernel_rfl))
  f337 := Tryd.func89.trans (congrArg some (by kernel_rfl))
  f338 := Tryd.func90.trans (congrArg some (by kernel_rfl))
  t0 := Tryd.underlying0
  a0 := Tryd.isAgg0
  z0 := Tryd.sizeOf0
  v0 := Tryd.zeroValue0
  t2 := Tryd.underlying2
  a2 := Tryd.isAgg2
  z2 := Tryd.sizeOf2
  v2 := Tryd.zeroValue2
  t3 := Tryd.underlying3
  a3 := Tryd.isAgg3
  z3 := Tryd.sizeOf3
  v3 := Tryd.zeroValue3
  t4 := Tryd.underlying4
  a4 := Tryd.isAgg4
  z4 := Tryd.sizeOf4
  v4 := Tryd.zeroValue4
  t5 := Tryd.underlying5
  a5 := Tryd.isAgg5
  z5 := Tryd.sizeOf5
  v5 := Tryd.zeroValue5
  t9 := Tryd.underlying9
  a9 := Tryd.isAgg9
  z9 := Tryd.sizeOf9
  v9 := Tryd.zeroValue9
  t20 := Tryd.underlying20
  a20 := Tryd.isAgg20
  z20 := Tryd.sizeOf20
  v20 := Tryd.zeroValue20
  t37 := Tryd.underlying41
  a37 := Tryd.isAgg41
  z37 := Tryd.sizeOf41
  v37 := Tryd.zeroValue41
  t46 := Tryd.underlying68
  a46 := Tryd.isAgg68
  z46 := Tryd.sizeOf68
  v46 := Tryd.zeroValue68
  t51 := Tryd.underlying93
  a51 := Tryd.isAgg93
  z51 := Tryd.sizeOf93
  v51 := Tryd.zeroValue93
  t53 := Tryd.underlying95
  a53 := Tryd.isAgg95
  z53 := Tryd.sizeOf95
  v53 := Tryd.zeroValue95
  t171 := Tryd.underlying120
  a171 := Tryd.isAgg120
  z171 := Tryd.sizeOf120
  v171 := Tryd.zeroValue120
  t173 := Tryd.underlying122
  a173 := Tryd.isAgg122
  z173 := Tryd.sizeOf122
  v173 := Tryd.zeroValue122
  t212 := Tryd.underlying129
  a212 := Tryd.isAgg129
  z212 := Tryd.sizeOf129
  v212 := Tryd.zeroValue129
  t213 := Tryd.underlying130
  a213 := Tryd.isAgg130
  z213 := Tryd.sizeOf130
  t232 := Tryd.underlying131
  a232 := Tryd.isAgg131
  z232 := Tryd.sizeOf131
  v232 := Tryd.zeroValue131
  t233 := Tryd.underlying132
  a233 := Tryd.isAgg132
  z233 := Tryd.sizeOf132
  v233 := Tryd.zeroValue132
  g17 := by kernel_rfl
  g18 := by kernel_rfl
  g19 := by kernel_rfl }
open Go.RowKit Go.Sort Go.Lib in
/-- THE ROAD WITHOUT THE TABLE: 0 <= i < 100: two constants are read, nothing is laid: no premise on the world, and the world is as it was. (LAID: no walk: one application.) -/
theorem Tryd.internal_strconv_FormatInt_10_small (i : Nat) (hi : i < 100) (w : World) :
    Calls Tryd.prog 69 #[.int .i64 i, .int .i64 10] w fun e w' => e = .returned (.string ⟨(Lib.decDigits i).toArray⟩) ∧ w' = w := Any.internal_strconv_FormatInt_10_small Tryd.lays246 i hi w
def Tryd.laysM243_ren : Go.Shelf.Ren := ⟨fun | 243 => 55 | 246 => 69 | 283 => 77 | 284 => 78 | 285 => 79 | 286 => 80 | 129 => 54 | 317 => 84 | 318 => 85 | 319 => 86 | 320 => 87 | 337 => 89 | 338 => 90 | n => n, fun | 3 => 3 | 9 => 9 | 2 => 2 | 4 => 4 | 171 => 120 | 0 => 0 | 53 => 95 | 37 => 41 | 5 => 5 | 173 => 122 | 212 => 129 | 51 => 93 | 20 => 20 | 213 => 130 | 46 => 68 | 232 => 131 | 233 => 132 | n => n, fun | 17 => 5 | 18 => 6 | 19 => 7 | n => n⟩
theorem Tryd.laysM243 : Go.Proofs.LaysM.n243 Tryd.prog Tryd.laysM243_ren := {
  mixed := by kernel_rfl
  f129 := Tryd.func54.trans (congrArg some (by kernel_rfl))
  f243 := Tryd.func55.trans (congrArg some (by kernel_rfl))
  f246 := Tryd.func69.trans (congrArg some (by kernel_rfl))
  f283 := Tryd.func77.trans (congrArg some (by kernel_rfl))
  f284 := Tryd.func78.trans (congrArg some (by kernel_rfl))
  f285 := Tryd.func79.trans (congrArg some (by kernel_rfl))
  f286 := Tryd.func80.trans (congrArg some (by kernel_rfl))
  f317 := Tryd.func84.trans (congrArg some (by kernel_rfl))
  f318 := Tryd.func85.trans (congrArg some (by kernel_rfl))
  f319 := Tryd.func86.trans (congrArg some (by kernel_rfl))
  f320 := Tryd.func87.trans (congrArg some (by kernel_rfl))
  f337 := Tryd.func89.trans (congrArg some (by kernel_rfl))
  f338 := Tryd.func90.trans (congrArg some (by kernel_rfl))
  t0 := Tryd.underlying0
  a0 := Tryd.isAgg0
  z0 := Tryd.sizeOf0
  v0 := Tryd.zeroValue0
  t2 := Tryd.underlying2
  a2 := Tryd.isAgg2
  z2 := Tryd.sizeOf2
  v2 := Tryd.zeroValue2
  t3 := Tryd.underlying3
  a3 := Tryd.isAgg3
  z3 := Tryd.sizeOf3
  v3 := Tryd.zeroValue3
  t4 := Tryd.underlying4
  a4 := Tryd.isAgg4
  z4 := Tryd.sizeOf4
  v4 := Tryd.zeroValue4
  t5 := Tryd.underlying5
  a5 := Tryd.isAgg5
  z5 := Tryd.sizeOf5
  v5 := Tryd.zeroValue5
  t9 := Tryd.underlying9
  a9 := Tryd.isAgg9
  z9 := Tryd.sizeOf9
  v9 := Tryd.zeroValue9
  t20 := Tryd.underlying20
  a20 := Tryd.isAgg20
  z20 := Tryd.sizeOf20
  v20 := Tryd.zeroValue20
  t37 := Tryd.underlying41
  a37 := Tryd.isAgg41
  z37 := Tryd.sizeOf41
  v37 := Tryd.zeroValue41
  t46 := Tryd.underlying68
  a46 := Tryd.isAgg68
  z46 := Tryd.sizeOf68
  v46 := Tryd.zeroValue68
  t51 := Tryd.underlying93
  a51 := Tryd.isAgg93
  z51 := Tryd.sizeOf93
  v51 := Tryd.zeroValue93
  t53 := Tryd.underlying95
  a53 := Tryd.isAgg95
  z53 := Tryd.sizeOf95
  v53 := Tryd.zeroValue95
  t171 := Tryd.underlying120
  a171 := Tryd.isAgg120
  z171 := Tryd.sizeOf120
  v171 := Tryd.zeroValue120
  t173 := Tryd.underlying122
  a173 := Tryd.isAgg122
  z173 := Tryd.sizeOf122
  v173 := Tryd.zeroValue122
  t212 := Tryd.underlying129
  a212 := Tryd.isAgg129
  z212 := Tryd.sizeOf129
  v212 := Tryd.zeroValue129
  t213 := Tryd.underlying130
  a213 := Tryd.isAgg130
  z213 := Tryd.sizeOf130
  t232 := Tryd.underlying131
  a232 := Tryd.isAgg131
  z232 := Tryd.sizeOf131
  v232 := Tryd.zeroValue131
  t233 := Tryd.underlying132
  a233 := Tryd.isAgg132
  z233 := Tryd.sizeOf132
  v233 := Tryd.zeroValue132
  g17 := by kernel_rfl
  g18 := by kernel_rfl
  g19 := by kernel_rfl
  i0 := by kernel_rfl
  i2 := by kernel_rfl
  i3 := by kernel_rfl
  i4 := by kernel_rfl
  i5 := by kernel_rfl
  i9 := by kernel_rfl
  i20 := by kernel_rfl
  i37 := by kernel_rfl
  i46 := by kernel_rfl
  i51 := by kernel_rfl
  i53 := by kernel_rfl
  i171 := by kernel_rfl
  i173 := by kernel_rfl
  i212 := by kernel_rfl
  i232 := by kernel_rfl
  i233 := by kernel_rfl
  m17 := by kernel_rfl
  m18 := by kernel_rfl
  m19 := by kernel_rfl }
open Go.RowKit Go.Sort Go.Lib in
/-- internal/strconv.Itoa: "Itoa is equivalent to FormatInt(int64(i), 10).": i's decimal numeral, for every int. (LAID: no walk: one application.) -/
theorem Tryd.internal_strconv_Itoa (n : Int) (h0 : -9223372036854775808 ≤ n) (h1 : n ≤ 9223372036854775807) (w : World) (htab : Lib.TabIs Tryd.prog w "internal/strconv.uint64pow10" .u64 Lib.pow10Tab) :
    Calls Tryd.prog 55 #[.int .i64 n] w fun e w' => e = .returned (.string ⟨(Lib.itoa n).toArray⟩) ∧ ∃ k os, w' = grow (w.drewN k) os := Any.internal_strconv_Itoa Tryd.laysM243 n h0 h1 w htab
def Tryd.lays243_ren : Go.Shelf.Ren := ⟨fun | 243 => 55 | 246 => 69 | 283 => 77 | 284 => 78 | 285 => 79 | 286 => 80 | 129 => 54 | 317 => 84 | 318 => 85 | 319 => 86 | 320 => 87 | 337 => 89 | 338 => 90 | n => n, fun | 3 => 3 | 9 => 9 | 2 => 2 | 4 => 4 | 171 => 120 | 0 => 0 | 53 => 95 | 37 => 41 | 5 => 5 | 173 => 122 | 212 => 129 | 51 => 93 | 20 => 20 | 213 => 130 | 46 => 68 | 232 => 131 | 233 => 132 | n => n, fun | 17 => 5 | 18 => 6 | 19 => 7 | n => n⟩
theorem Tryd.lays243 : Go.Proofs.Lays.n243 Tryd.prog Tryd.lays243_ren := {
  mixed := by kernel_rfl
  f129 := Tryd.func54.trans (congrArg some (by kernel_rfl))
  f243 := Tryd.func55.trans (congrArg some (by kernel_rfl))
  f246 := Tryd.func69.trans (congrArg some (by kernel_rfl))
  f283 := Tryd.func77.trans (congrArg some (by kernel_rfl))
  f284 := Tryd.func78.trans (congrArg some (by kernel_rfl))
  f285 := Tryd.func79.trans (congrArg some (by kernel_rfl))
  f286 := Tryd.func80.trans (congrArg some (by kernel_rfl))
  f317 := Tryd.func84.trans (congrArg some (by kernel_rfl))
  f318 := Tryd.func85.trans (congrArg some (by kernel_rfl))
  f319 := Tryd.func86.trans (congrArg some (by kernel_rfl))
  f320 := Tryd.func87.trans (congrArg some (by kernel_rfl))
  f337 := Tryd.func89.trans (congrArg some (by kernel_rfl))
  f338 := Tryd.func90.trans (congrArg some (by kernel_rfl))
  t0 := Tryd.underlying0
  a0 := Tryd.isAgg0
  z0 := Tryd.sizeOf0
  v0 := Tryd.zeroValue0
  t2 := Tryd.underlying2
  a2 := Tryd.isAgg2
  z2 := Tryd.sizeOf2
  v2 := Tryd.zeroValue2
  t3 := Tryd.underlying3
  a3 := Tryd.isAgg3
  z3 := Tryd.sizeOf3
  v3 := Tryd.zeroValue3
  t4 := Tryd.underlying4
  a4 := Tryd.isAgg4
  z4 := Tryd.sizeOf4
  v4 := Tryd.zeroValue4
  t5 := Tryd.underlying5
  a5 := Tryd.isAgg5
  z5 := Tryd.sizeOf5
  v5 := Tryd.zeroValue5
  t9 := Tryd.underlying9
  a9 := Tryd.isAgg9
  z9 := Tryd.sizeOf9
  v9 := Tryd.zeroValue9
  t20 := Tryd.underlying20
  a20 := Tryd.isAgg20
  z20 := Tryd.sizeOf20
  v20 := Tryd.zeroValue20
  t37 := Tryd.underlying41
  a37 := Tryd.isAgg41
  z37 := Tryd.sizeOf41
  v37 := Tryd.zeroValue41
  t46 := Tryd.underlying68
  a46 := Tryd.isAgg68
  z46 := Tryd.sizeOf68
  v46 := Tryd.zeroValue68
  t51 := Tryd.underlying93
  a51 := Tryd.isAgg93
  z51 := Tryd.sizeOf93
  v51 := Tryd.zeroValue93
  t53 := Tryd.underlying95
  a53 := Tryd.isAgg95
  z53 := Tryd.sizeOf95
  v53 := Tryd.zeroValue95
  t171 := Tryd.underlying120
  a171 := Tryd.isAgg120
  z171 := Tryd.sizeOf120
  v171 := Tryd.zeroValue120
  t173 := Tryd.underlying122
  a173 := Tryd.isAgg122
  z173 := Tryd.sizeOf122
  v173 := Tryd.zeroValue122
  t212 := Tryd.underlying129
  a212 := Tryd.isAgg129
  z212 := Tryd.sizeOf129
  v212 := Tryd.zeroValue129
  t213 := Tryd.underlying130
  a213 := Tryd.isAgg130
  z213 := Tryd.sizeOf130
  t232 := Tryd.underlying131
  a232 := Tryd.isAgg131
  z232 := Tryd.sizeOf131
  v232 := Tryd.zeroValue131
  t233 := Tryd.underlying132
  a233 := Tryd.isAgg132
  z233 := Tryd.sizeOf132
  v233 := Tryd.zeroValue132
  g17 := by kernel_rfl
  g18 := by kernel_rfl
  g19 := by kernel_rfl }
open Go.RowKit Go.Sort Go.Lib in
/-- THE ROAD WITHOUT THE TABLE: 0 <= i < 100. (LAID: no walk: one application.) -/
theorem Tryd.internal_strconv_Itoa_small (i : Nat) (hi : i < 100) (w : World) :
    Calls Tryd.prog 55 #[.int .i64 i] w fun e w' => e = .returned (.string ⟨(Lib.decDigits i).toArray⟩) ∧ w' = w := Any.internal_strconv_Itoa_small Tryd.lays243 i hi w
def Tryd.laysM171_ren : Go.Shelf.Ren := ⟨fun | 171 => 34 | 243 => 55 | 246 => 69 | 283 => 77 | 284 => 78 | 285 => 79 | 286 => 80 | 129 => 54 | 317 => 84 | 318 => 85 | 319 => 86 | 320 => 87 | 337 => 89 | 338 => 90 | n => n, fun | 3 => 3 | 9 => 9 | 2 => 2 | 4 => 4 | 171 => 120 | 0 => 0 | 53 => 95 | 37 => 41 | 5 => 5 | 173 => 122 | 212 => 129 | 51 => 93 | 20 => 20 | 213 => 130 | 46 => 68 | 232 => 131 | 233 => 132 | n => n, fun | 17 => 5 | 18 => 6 | 19 => 7 | n => n⟩
theorem Tryd.laysM171 : Go.Proofs.LaysM.n171 Tryd.prog Tryd.laysM171_ren := {
  mixed := by kernel_rfl
  f129 := Tryd.func54.trans (congrArg some (by kernel_rfl))
  f171 := Tryd.func34.trans (congrArg some (by kernel_rfl))
  f243 := Tryd.func55.trans (congrArg some (by kernel_rfl))
  f246 := Tryd.func69.trans (congrArg some (by kernel_rfl))
  f283 := Tryd.func77.trans (congrArg some (by kernel_rfl))
  f284 := Tryd.func78.trans (congrArg some (by kernel_rfl))
  f285 := Tryd.func79.trans (congrArg some (by kernel_rfl))
  f286 := Tryd.func80.trans (congrArg some (by kernel_rfl))
  f317 := Tryd.func84.trans (congrArg some (by kernel_rfl))
  f318 := Tryd.func85.trans (congrArg some (by kernel_rfl))
  f319 := Tryd.func86.trans (congrArg some (by kernel_rfl))
  f320 := Tryd.func87.trans (congrArg some (by kernel_rfl))
  f337 := Tryd.func89.trans (congrArg some (by kernel_rfl))
  f338 := Tryd.func90.trans (congrArg some (by kernel_rfl))
  t0 := Tryd.underlying0
  a0 := Tryd.isAgg0
  z0 := Tryd.sizeOf0
  v0 := Tryd.zeroValue0
  t2 := Tryd.underlying2
  a2 := Tryd.isAgg2
  z2 := Tryd.sizeOf2
  v2 := Tryd.zeroValue2
  t3 := Tryd.underlying3
  a3 := Tryd.isAgg3
  z3 := Tryd.sizeOf3
  v3 := Tryd.zeroValue3
  t4 := Tryd.underlying4
  a4 := Tryd.isAgg4
  z4 := Tryd.sizeOf4
  v4 := Tryd.zeroValue4
  t5 := Tryd.underlying5
  a5 := Tryd.isAgg5
  z5 := Tryd.sizeOf5
  v5 := Tryd.zeroValue5
  t9 := Tryd.underlying9
  a9 := Tryd.isAgg9
  z9 := Tryd.sizeOf9
  v9 := Tryd.zeroValue9
  t20 := Tryd.underlying20
  a20 := Tryd.isAgg20
  z20 := Tryd.sizeOf20
  v20 := Tryd.zeroValue20
  t37 := Tryd.underlying41
  a37 := Tryd.isAgg41
  z37 := Tryd.sizeOf41
  v37 := Tryd.zeroValue41
  t46 := Tryd.underlying68
  a46 := Tryd.isAgg68
  z46 := Tryd.sizeOf68
  v46 := Tryd.zeroValue68
  t51 := Tryd.underlying93
  a51 := Tryd.isAgg93
  z51 := Tryd.sizeOf93
  v51 := Tryd.zeroValue93
  t53 := Tryd.underlying95
  a53 := Tryd.isAgg95
  z53 := Tryd.sizeOf95
  v53 := Tryd.zeroValue95
  t171 := Tryd.underlying120
  a171 := Tryd.isAgg120
  z171 := Tryd.sizeOf120
  v171 := Tryd.zeroValue120
  t173 := Tryd.underlying122
  a173 := Tryd.isAgg122
  z173 := Tryd.sizeOf122
  v173 := Tryd.zeroValue122
  t212 := Tryd.underlying129
  a212 := Tryd.isAgg129
  z212 := Tryd.sizeOf129
  v212 := Tryd.zeroValue129
  t213 := Tryd.underlying130
  a213 := Tryd.isAgg130
  z213 := Tryd.sizeOf130
  t232 := Tryd.underlying131
  a232 := Tryd.isAgg131
  z232 := Tryd.sizeOf131
  v232 := Tryd.zeroValue131
  t233 := Tryd.underlying132
  a233 := Tryd.isAgg132
  z233 := Tryd.sizeOf132
  v233 := Tryd.zeroValue132
  g17 := by kernel_rfl
  g18 := by kernel_rfl
  g19 := by kernel_rfl
  i0 := by kernel_rfl
  i2 := by kernel_rfl
  i3 := by kernel_rfl
  i4 := by kernel_rfl
  i5 := by kernel_rfl
  i9 := by kernel_rfl
  i20 := by kernel_rfl
  i37 := by kernel_rfl
  i46 := by kernel_rfl
  i51 := by kernel_rfl
  i53 := by kernel_rfl
  i171 := by kernel_rfl
  i173 := by kernel_rfl
  i212 := by kernel_rfl
  i232 := by kernel_rfl
  i233 := by kernel_rfl
  m17 := by kernel_rfl
  m18 := by kernel_rfl
  m19 := by kernel_rfl }
open Go.RowKit Go.Sort Go.Lib in
/-- strconv.Itoa: "Itoa is equivalent to FormatInt(int64(i), 10).": i's DECIMAL NUMERAL ('Lib.itoa': a '-' where i is negative, then the digits), FOR EVERY int. The world behind the call: the world before it, new blocks behind the heap (the library's 'var a [24]byte'), draws. (LAID: no walk: one application.) -/
theorem Tryd.strconv_Itoa (n : Int) (h0 : -9223372036854775808 ≤ n) (h1 : n ≤ 9223372036854775807) (w : World) (htab : Lib.TabIs Tryd.prog w "internal/strconv.uint64pow10" .u64 Lib.pow10Tab) :
    Calls Tryd.prog 34 #[.int .i64 n] w fun e w' => e = .returned (.string ⟨(Lib.itoa n).toArray⟩) ∧ ∃ k os, w' = grow (w.drewN k) os := Any.strconv_Itoa Tryd.laysM171 n h0 h1 w htab
def Tryd.lays171_ren : Go.Shelf.Ren := ⟨fun | 171 => 34 | 243 => 55 | 246 => 69 | 283 => 77 | 284 => 78 | 285 => 79 | 286 => 80 | 129 => 54 | 317 => 84 | 318 => 85 | 319 => 86 | 320 => 87 | 337 => 89 | 338 => 90 | n => n, fun | 3 => 3 | 9 => 9 | 2 => 2 | 4 => 4 | 171 => 120 | 0 => 0 | 53 => 95 | 37 => 41 | 5 => 5 | 173 => 122 | 212 => 129 | 51 => 93 | 20 => 20 | 213 => 130 | 46 => 68 | 232 => 131 | 233 => 132 | n => n, fun | 17 => 5 | 18 => 6 | 19 => 7 | n => n⟩
theorem Tryd.lays171 : Go.Proofs.Lays.n171 Tryd.prog Tryd.lays171_ren := {
  mixed := by kernel_rfl
  f129 := Tryd.func54.trans (congrArg some (by kernel_rfl))
  f171 := Tryd.func34.trans (congrArg some (by kernel_rfl))
  f243 := Tryd.func55.trans (congrArg some (by kernel_rfl))
  f246 := Tryd.func69.trans (congrArg some (by kernel_rfl))
  f283 := Tryd.func77.trans (congrArg some (by kernel_rfl))
  f284 := Tryd.func78.trans (congrArg some (by kernel_rfl))
  f285 := Tryd.func79.trans (congrArg some (by kernel_rfl))
  f286 := Tryd.func80.trans (congrArg some (by kernel_rfl))
  f317 := Tryd.func84.trans (congrArg some (by kernel_rfl))
  f318 := Tryd.func85.trans (congrArg some (by kernel_rfl))
  f319 := Tryd.func86.trans (congrArg some (by kernel_rfl))
  f320 := Tryd.func87.trans (congrArg some (by kernel_rfl))
  f337 := Tryd.func89.trans (congrArg some (by kernel_rfl))
  f338 := Tryd.func90.trans (congrArg some (by kernel_rfl))
  t0 := Tryd.underlying0
  a0 := Tryd.isAgg0
  z0 := Tryd.sizeOf0
  v0 := Tryd.zeroValue0
  t2 := Tryd.underlying2
  a2 := Tryd.isAgg2
  z2 := Tryd.sizeOf2
  v2 := Tryd.zeroValue2
  t3 := Tryd.underlying3
  a3 := Tryd.isAgg3
  z3 := Tryd.sizeOf3
  v3 := Tryd.zeroValue3
  t4 := Tryd.underlying4
  a4 := Tryd.isAgg4
  z4 := Tryd.sizeOf4
  v4 := Tryd.zeroValue4
  t5 := Tryd.underlying5
  a5 := Tryd.isAgg5
  z5 := Tryd.sizeOf5
  v5 := Tryd.zeroValue5
  t9 := Tryd.underlying9
  a9 := Tryd.isAgg9
  z9 := Tryd.sizeOf9
  v9 := Tryd.zeroValue9
  t20 := Tryd.underlying20
  a20 := Tryd.isAgg20
  z20 := Tryd.sizeOf20
  v20 := Tryd.zeroValue20
  t37 := Tryd.underlying41
  a37 := Tryd.isAgg41
  z37 := Tryd.sizeOf41
  v37 := Tryd.zeroValue41
  t46 := Tryd.underlying68
  a46 := Tryd.isAgg68
  z46 := Tryd.sizeOf68
  v46 := Tryd.zeroValue68
  t51 := Tryd.underlying93
  a51 := Tryd.isAgg93
  z51 := Tryd.sizeOf93
  v51 := Tryd.zeroValue93
  t53 := Tryd.underlying95
  a53 := Tryd.isAgg95
  z53 := Tryd.sizeOf95
  v53 := Tryd.zeroValue95
  t171 := Tryd.underlying120
  a171 := Tryd.isAgg120
  z171 := Tryd.sizeOf120
  v171 := Tryd.zeroValue120
  t173 := Tryd.underlying122
  a173 := Tryd.isAgg122
  z173 := Tryd.sizeOf122
  v173 := Tryd.zeroValue122
  t212 := Tryd.underlying129
  a212 := Tryd.isAgg129
  z212 := Tryd.sizeOf129
  v212 := Tryd.zeroValue129
  t213 := Tryd.underlying130
  a213 := Tryd.isAgg130
  z213 := Tryd.sizeOf130
  t232 := Tryd.underlying131
  a232 := Tryd.isAgg131
  z232 := Tryd.sizeOf131
  v232 := Tryd.zeroValue131
  t233 := Tryd.underlying132
  a233 := Tryd.isAgg132
  z233 := Tryd.sizeOf132
  v233 := Tryd.zeroValue132
  g17 := by kernel_rfl
  g18 := by kernel_rfl
  g19 := by kernel_rfl }
open Go.RowKit Go.Sort Go.Lib in
/-- THE ROAD WITHOUT THE TABLE: 0 <= i < 100: NO PREMISE ON THE WORLD, AND THE WORLD IS AS IT WAS: a row that keeps its argument in that range need list no table ('laid = []'). (LAID: no walk: one application.) -/
theorem Tryd.strconv_Itoa_small (i : Nat) (hi : i < 100) (w : World) :
    Calls Tryd.prog 34 #[.int .i64 i] w fun e w' => e = .returned (.string ⟨(Lib.decDigits i).toArray⟩) ∧ w' = w := Any.strconv_Itoa_small Tryd.lays171 i hi w
def Tryd.lays189_ren : Go.Shelf.Ren := ⟨fun | 189 => 20 | 125 => 32 | 257 => 31 | 128 => 53 | 129 => 54 | 294 => 44 | 295 => 45 | 296 => 46 | 297 => 47 | 298 => 48 | 299 => 49 | 216 => 50 | 300 => 51 | 301 => 52 | 328 => 63 | 329 => 64 | 330 => 65 | 331 => 66 | 332 => 67 | 215 => 68 | 343 => 76 | n => n, fun | 28 => 22 | 3 => 3 | 46 => 68 | 0 => 0 | 51 => 93 | 53 => 95 | 4 => 4 | 183 => 86 | 182 => 85 | 131 => 90 | 5 => 5 | 9 => 9 | 218 => 103 | 222 => 107 | 228 => 117 | 229 => 118 | n => n, fun | n => n⟩
theorem Tryd.lays189 : Go.Proofs.Lays.n189 Tryd.prog Tryd.lays189_ren := {
  mixed := by kernel_rfl
  f125 := Tryd.func32.trans (congrArg some (by kernel_rfl))
  f128 := Tryd.func53.trans (congrArg some (by kernel_rfl))
  f129 := Tryd.func54.trans (congrArg some (by kernel_rfl))
  f189 := Tryd.func20.trans (congrArg some (by kernel_rfl))
  f215 := Tryd.func68.trans (congrArg some (by kernel_rfl))
  f216 := Tryd.func50.trans (congrArg some (by kernel_rfl))
  f257 := Tryd.func31.trans (congrArg some (by kernel_rfl))
  f294 := Tryd.func44.trans (congrArg some (by kernel_rfl))
  f295 := Tryd.func45.trans (congrArg some (by kernel_rfl))
  f296 := Tryd.func46.trans (congrArg some (by kernel_rfl))
  f297 := Tryd.func47.trans (congrArg some (by kernel_rfl))
  f298 := Tryd.func48.trans (congrArg some (by kernel_rfl))
  f299 := Tryd.func49.trans (congrArg some (by kernel_rfl))
  f300 := Tryd.func51.trans (congrArg some (by kernel_rfl))
  f301 := Tryd.func52.trans (congrArg some (by kernel_rfl))
  f328 := Tryd.func63.trans (congrArg some (by kernel_rfl))
  f329 := Tryd.func64.trans (congrArg some (by kernel_rfl))
  f330 := Tryd.func65.trans (congrArg some (by kernel_rfl))
  f331 := Tryd.func66.trans (congrArg some (by kernel_rfl))
  f332 := Tryd.func67.trans (congrArg some (by kernel_rfl))
  f343 := Tryd.func76.trans (congrArg some (by kernel_rfl))
  t0 := Tryd.underlying0
  a0 := Tryd.isAgg0
  z0 := Tryd.sizeOf0
  v0 := Tryd.zeroValue0
  t3 := Tryd.underlying3
  a3 := Tryd.isAgg3
  z3 := Tryd.sizeOf3
  v3 := Tryd.zeroValue3
  t4 := Tryd.underlying4
  a4 := Tryd.isAgg4
  z4 := Tryd.sizeOf4
  v4 := Tryd.zeroValue4
  t5 := Tryd.underlying5
  a5 := Tryd.isAgg5
  z5 := Tryd.sizeOf5
  v5 := Tryd.zeroValue5
  t9 := Tryd.underlying9
  a9 := Tryd.isAgg9
  z9 := Tryd.sizeOf9
  v9 := Tryd.zeroValue9
  t28 := Tryd.underlying22
  a28 := Tryd.isAgg22
  z28 := Tryd.sizeOf22
  v28 := Tryd.zeroValue22
  t46 := Tryd.underlying68
  a46 := Tryd.isAgg68
  z46 := Tryd.sizeOf68
  v46 := Tryd.zeroValue68
  t51 := Tryd.underlying93
  a51 := Tryd.isAgg93
  z51 := Tryd.sizeOf93
  v51 := Tryd.zeroValue93
  t53 := Tryd.underlying95
  a53 := Tryd.isAgg95
  z53 := Tryd.sizeOf95
  v53 := Tryd.zeroValue95
  t131 := Tryd.underlying90
  a131 := Tryd.isAgg90
  z131 := Tryd.sizeOf90
  v131 := Tryd.zeroValue90
  t182 := Tryd.underlying85
  a182 := Tryd.isAgg85
  z182 := Tryd.sizeOf85
  v182 := Tryd.zeroValue85
  t183 := Tryd.underlying86
  a183 := Tryd.isAgg86
  z183 := Tryd.sizeOf86
  v183 := Tryd.zeroValue86
  t218 := Tryd.underlying103
  a218 := Tryd.isAgg103
  z218 := Tryd.sizeOf103
  v218 := Tryd.zeroValue103
  t222 := Tryd.underlying107
  a222 := Tryd.isAgg107
  z222 := Tryd.sizeOf107
  v222 := Tryd.zeroValue107
  t228 := Tryd.underlying117
  a228 := Tryd.isAgg117
  z228 := Tryd.sizeOf117
  v228 := Tryd.zeroValue117
  t229 := Tryd.underlying118
  a229 := Tryd.isAgg118
  z229 := Tryd.sizeOf118
  v229 := Tryd.zeroValue118 }
open Go.Sort Go.RowKit in
theorem Tryd.slices_Sort_int (blk off cap : Nat) (zs : List Int) (w : World) (hH : Holds (Value.int .i64) w blk off zs.toArray) (hblk : blk < w.heap.size) (hsz : zs.length < 4611686018427387904) :
    Calls Tryd.prog 20 #[.slice (some ⟨blk, off, none⟩) zs.length cap] w fun e w' =>
      e = .returned (.tuple #[]) ∧ ∃ n os, w' = grow (putRow (Value.int .i64) (Sort.ahead w n) blk off (zs.mergeSort fun x y => decide (x ≤ y)).toArray) os := Any.slices_Sort_int Tryd.lays189 blk off cap zs w hH hblk hsz
def Tryd.laysNm237_ren : Go.Shelf.Ren := ⟨fun | 37 => 68 | n => n, fun | 3 => 3 | 4 => 4 | n => n, fun | n => n⟩
theorem Tryd.laysNm237 : Go.Proofs.Lays2.n37 Tryd.prog Tryd.laysNm237_ren := {
  mixed := by kernel_rfl
  f37 := Tryd.func68.trans (congrArg some (by kernel_rfl))
  t3 := Tryd.underlying3
  a3 := Tryd.isAgg3
  z3 := Tryd.sizeOf3
  v3 := Tryd.zeroValue3
  t4 := Tryd.underlying4
  a4 := Tryd.isAgg4
  z4 := Tryd.sizeOf4
  v4 := Tryd.zeroValue4 }
open Go.RowKit Go.Lib in
/-- cmp.isNaN[int]: 'x != x': false. (LAID: no walk: one application.) -/
theorem Tryd.cmp_isNaN_int2 (x : Int) (w : World) :
    Calls Tryd.prog 68 #[.int .i64 x] w fun e w' => e = .returned (.bool false) ∧ w' = w := Any.cmp_isNaN_int2 Tryd.laysNm237 x w
def Tryd.laysNm231_ren : Go.Shelf.Ren := ⟨fun | 31 => 50 | 37 => 68 | n => n, fun | 3 => 3 | 4 => 4 | n => n, fun | n => n⟩
theorem Tryd.laysNm231 : Go.Proofs.Lays2.n31 Tryd.prog Tryd.laysNm231_ren := {
  mixed := by kernel_rfl
  f31 := Tryd.func50.trans (congrArg some (by kernel_rfl))
  f37 := Tryd.func68.trans (congrArg some (by kernel_rfl))
  t3 := Tryd.underlying3
  a3 := Tryd.isAgg3
  z3 := Tryd.sizeOf3
  v3 := Tryd.zeroValue3
  t4 := Tryd.underlying4
  a4 := Tryd.isAgg4
  z4 := Tryd.sizeOf4
  v4 := Tryd.zeroValue4 }
open Go.RowKit Go.Lib in
/-- cmp.Less[int]: "Less reports whether x is less than y.": 'x < y'; the world is as it was. (LAID: no walk: one application.) -/
theorem Tryd.cmp_Less_int2 (x y : Int) (w : World) :
    Calls Tryd.prog 50 #[.int .i64 x, .int .i64 y] w fun e w' => e = .returned (.bool (decide (x < y))) ∧ w' = w := Any.cmp_Less_int2 Tryd.laysNm231 x y w
open Go.RowKit Go.Sort in
/-- .. and plain. (LAID: no walk: one application.) -/
theorem Tryd.slices_Sort_int_none (p : Option Addr) (cap : Nat) (w : World) :
    Calls Tryd.prog 20 #[.slice p 0 cap] w fun e w' => e = .returned (.tuple #[]) ∧ w' = w := Any.slices_Sort_int_none Tryd.lays189 p cap w
end Go.Proofs

namespace Go.Proofs.YtndnedjclbigiaaDoor.D
open Go.Maps
set_option linter.unusedVariables false

def leftL (n : Nat) (lost : List Int) : List Int := ((List.range n).map Int.ofNat).filter (fun h => decide (h ∉ lost))
theorem leftL_mem {n : Nat} {lost : List Int} {x : Int} : x ∈ leftL n lost ↔ (0 ≤ x ∧ x < (n : Int)) ∧ x ∉ lost := by
  unfold leftL
  rw [List.mem_filter, List.mem_map]
  simp only [decide_eq_true_eq, List.mem_range]
  constructor
  · rintro ⟨⟨a, ha, rfl⟩, hn⟩
    exact ⟨⟨Int.natCast_nonneg _, Int.ofNat_lt.2 ha⟩, hn⟩
  · rintro ⟨⟨h0, h1⟩, hn⟩
    exact ⟨⟨x.toNat, by omega, Int.toNat_of_nonneg h0⟩, hn⟩
theorem leftL_sorted (n : Nat) (lost : List Int) : (leftL n lost).Pairwise (· < ·) := by
  unfold leftL
  refine List.Pairwise.filter _ ?_
  rw [List.pairwise_map]
  exact List.Pairwise.imp (fun {a b} h => Int.ofNat_lt.2 h) List.pairwise_lt_range
theorem leftL_len (n : Nat) (lost : List Int) : (leftL n lost).length ≤ n := by
  unfold leftL
  refine Nat.le_trans (List.length_filter_le _ _) ?_
  rw [List.length_map, List.length_range]; exact Nat.le_refl _
theorem sort_perm {l ss : List Int} (h : ss.Perm l) (hs : l.Pairwise (· < ·)) : ss.mergeSort (fun x y => decide (x ≤ y)) = l := by
  have := mergeSort_of_perm_i h
  refine this.trans (List.mergeSort_of_pairwise (le := leI) ?_)
  exact hs.imp (fun {a b} h => by simp only [leI, decide_eq_true_eq]; omega)

/-- The map's keys are the numbers of which p tells. -/
def KeySet {H : Type} (D : DataW H) (p : Int → Bool) : Prop := ∀ x : Int, Maps.has D (.int .i64 x) = p x
theorem isKey_int (x : Int) : WideAt.IsKeyLit (.int .i64 x) := by first | trivial | (unfold WideAt.IsKeyLit; simp) | exact ⟨_, rfl⟩
theorem KeySet.empty {H : Type} : KeySet (.map [] : DataW H) (fun _ => false) := fun x => rfl
theorem KeySet.put {H : Type} {D : DataW H} {p : Int → Bool} (h : KeySet D p) (hD : IsMap D) (j : Int) (d : DataW H) : KeySet (D.put (.int .i64 j) d) (fun x => p x || decide (x = j)) := by
  intro x
  by_cases hx : x = j
  · subst hx
    rw [has_put_same hD (isKey_int _)]; simp
  · rw [has_put_other (by intro e; injection e with e1 e2; exact hx e2), h x]; simp [hx]
theorem KeySet.del {H : Type} {D : DataW H} {p : Int → Bool} (h : KeySet D p) (j : Int) : KeySet (D.del (.int .i64 j)) (fun x => p x && !decide (x = j)) := by
  intro x
  by_cases hx : x = j
  · subst hx
    rw [has_del_same]; simp
  · rw [has_del_other (by intro e; injection e with e1 e2; exact hx e2), h x]; simp [hx]
theorem KeySet.congr {H : Type} {D : DataW H} {p q : Int → Bool} (h : KeySet D p) (e : ∀ x, p x = q x) : KeySet D q := fun x => (h x).trans (e x)
/-- What was collected, sorted, is what is left. -/
theorem collected_left {H : Type} {D : DataW H} {p : Int → Bool} {left : Lit → Bool} {ss : List Int} {n : Nat} {lost : List Int} (hk : KeySet D p) (hc : CollectedI D left ss) (hl : ∀ kl, left kl = false)
    (hp : ∀ x, p x = true ↔ (0 ≤ x ∧ x < (n : Int)) ∧ x ∉ lost) : ss.Perm (leftL n lost) := by
  refine (List.perm_ext_iff_of_nodup hc.1 ((leftL_sorted n lost).imp (fun {a b} h => by omega))).2 fun x => ?_
  rw [hc.2 x, hk x, hl, leftL_mem, hp x]; simp
end Go.Proofs.YtndnedjclbigiaaDoor.D
