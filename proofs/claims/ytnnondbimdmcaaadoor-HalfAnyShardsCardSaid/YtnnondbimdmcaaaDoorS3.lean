/- What some functions come to, each a function of its own text; joined out of: G8, L1, L2, F16, F37, F17, M2, SenHalfAnyShards. No conditions but those in each theorem. -/
import Derived.Test.YtnnondbimdmcaaaDoorS2
import Derived.KernelRfl
import Derived.Test.YtnnondbimdmcaaaDoorS1
import Derived.Test.YtnnondbimdmcaaaDoorRows
import Derived.WalkKit
import Derived.ProofKit
import Derived.OpenShut
import Derived.ShutString
import Derived.ChangeOld
import Derived.Below
import Derived.SizedLaws
import Derived.LaidLaws
import Derived.LaidMore
import Derived.LaidHandle
import Derived.LaidOnce
import Derived.Stop.LaidErr
import Derived.SevenTiedAt
import Derived.JoinedOf
import Derived.RowKit
import Derived.RowKitTokens
import Derived.ChangeVars
import Derived.ChangeSame
import Derived.Lib.SmallJoins
namespace Go.Proofs.YtnnondbimdmcaaaDoor
open Go.RowKit Go.Proofs.YtnnondbimdmcaaaDoorW.PrintWords Go.Proofs.YtnnondbimdmcaaaDoorW.PrintLast Go.Proofs.YtnnondbimdmcaaaDoorW.PrintMore
open Go.Proofs.YtnnondbimdmcaaaDoor.F
set_option linter.unusedVariables false
set_option linter.unusedSectionVars false
set_option linter.unusedSimpArgs false
variable [Errs]

theorem box_put2 {w : World} {g t : Nat} {a b c : Value} (h : w.heap[g]? = some (.cells #[a, b, c] t (0, 0))) (z : Value) : (w.setCell ⟨g, 2, none⟩ z).heap[g]? = some (.cells #[a, b, z] t (0, 0)) := (blk_set h 2 z).trans rfl
def takeRow (m0 m1 : Int) (l : List Int) (i : Int) : Option (List Int) := if 0 ≤ i then (if i < m0 then some ((l.drop (i * m1).toNat).take m1.toNat) else none) else none
def mat_Take.l0 : Nat → Int → Int → List Int → List Int → Int → List Int → Option (List Int)
  | 0, _, _, _, _, _, _ => none
  | k + 1, m0, m1, l, rows, j, acc => if j < (rows.length : Int) then (takeRow m0 m1 l (rd rows j)).bind fun r => mat_Take.l0 k m0 m1 l rows (j + 1) (acc ++ r) else some acc
/-- The taken rows; none where Take refuses. -/
def mat_Take.f (k : Nat) (m0 m1 : Int) (l : List Int) (rows : List Int) : Option (Int × Int × List Int × Option Int) :=
  if rows.length ≤ 64 then (if mat_Check.f m0 m1 l = some none then (mat_Take.l0 k m0 m1 l rows 0 []).bind fun a => some ((rows.length : Int), m1, a, none) else none) else none
def mat_Take.L : List Int := [2, 12]
def TakePost (w : World) (r1 r2 : Int) (r3 : List Int) (e : Ending) (w' : World) : Prop := ∃ v2_ : Value, e = .returned (.tuple #[.agg #[.int .i64 r1, .int .i64 r2, v2_], .nilIface]) ∧ Kd.R (Kd.int .u8) 5 w' w.heap.size (fun _ => True) v2_ r3 ∧ Below w.heap.size w w'

set_option maxHeartbeats 3200000 in
set_option maxRecDepth 100000 in
theorem mat_Take.go (k : Nat) (m0 m1 : Int) (A : Option Addr) (c : Nat) (l : List Int) (Ar : Option Addr) (cr : Nat) (rows : List Int) (a : List Int) (w : World) (hr : Kd.C (Kd.int .u8) w A l.length l) (hc : l.length ≤ c) (hr2 : Kd.C (Kd.int .i64) w Ar rows.length rows) (hc2 : rows.length ≤ cr)
    (hl : rows.length ≤ 64) (hchk : mat_Check.f m0 m1 l = some none) (h : mat_Take.l0 k m0 m1 l rows 0 [] = some a) (hS : Sent mat_Take.L w) :
    Calls Tryd.prog 30 #[.agg #[.int .i64 m0, .int .i64 m1, .slice A l.length c], .slice Ar rows.length cr] w (TakePost w (rows.length : Int) m1 a) := by
  have hu43 := Tryd.underlying43
  have HR := Aside0.mk hr
  have HC := Aside0.mk hc
  have HR2 := Aside0.mk hr2
  have HC2 := Aside0.mk hc2
  have HS := Aside0.mk hS
  have HF := Aside0.mk (mat_Check_none hchk)
  have A1 := Aside0.mk hchk
  have HA := Aside0.mk h
  have HLL := Aside0.mk hl
  have hl64 : ¬ (64 : Int) < (rows.length : Int) := by omega
  have hl64' : ¬ 64 < rows.length := by omega
  clear hr hc hr2 hc2 hS hchk h hl
  go_enter Tryd.func30, Tryd.ntmps30
  go_wp2_with (go_at_call 43; (with_reducible refine (mat_Check.calls m0 m1 _ _ l none _ (Kd.C_alloc (Kd.C_alloc HR.out _) _) HC.out A1.out (Sent.sub (show ∀ c, c ∈ mat_Check.L → c ∈ mat_Take.L by decide) (HS.out.below (below_alloc (below_alloc (Below.refl _ _) _) _)))).mono ?_); rintro e w1 ⟨rfl, hb⟩; simp only [errW_none]; have HB := Aside0.mk (below_step (below_alloc (below_alloc (Below.refl _ _) _) _) hb); have BK1 : Aside0 (w1.heap[w.heap.size]? = some (.cells #[.int .i64 m0, .int .i64 m1, .slice A l.length c] 43 (0, 0))) := ⟨blk_below (blk_alloc (blk_new w _) _) hb⟩; have BK2 : Aside0 (w1.heap[w.heap.size + 1]? = some (.cells #[.int .i64 0, .int .i64 0, .slice none 0 0] 43 (0, 0))) := ⟨blk_below (by simpa using blk_new (w.alloc (.cells #[.int .i64 m0, .int .i64 m1, .slice A l.length c] 43)) (.cells #[.int .i64 0, .int .i64 0, .slice none 0 0] 43)) hb⟩; have hz1 : w.heap.size + 1 < w1.heap.size := blk_lt BK2.out; obtain ⟨hc10, hc11, hc12, hf10, hf11, hf12⟩ := box3 BK1.out; clear hb)
  obtain ⟨g1, hg1⟩ : ∃ g1, g1 = w.heap.size := ⟨_, rfl⟩
  obtain ⟨g2, hg2⟩ : ∃ g2, g2 = g1 + 1 := ⟨_, rfl⟩
  obtain ⟨g3, hg3⟩ : ∃ g3, g3 = w1.heap.size := ⟨_, rfl⟩
  rw [← hg1, ← hg2, ← hg3]
  have G1 : Aside0 (w.heap.size ≤ g1) := ⟨by omega⟩
  have G2 : Aside0 (w.heap.size ≤ g2) := ⟨by omega⟩
  have G3 : Aside0 (w.heap.size ≤ g3) := ⟨by omega⟩
  rw [← hg1] at BK1
  rw [← hg1, ← hg2] at BK2
  have N13 : Aside0 (g1 ≠ g3) := ⟨by have := blk_lt BK1.out; omega⟩
  have N23 : Aside0 (g2 ≠ g3) := ⟨by have := blk_lt BK2.out; omega⟩
  go_loopg [26] k (fun kq v26 w' => ∃ (j : Int) (acc : List Int) (u : Value), v26 = .int .i64 j ∧ Aside0 (0 ≤ j) ∧ Aside0 (mat_Take.l0 kq m0 m1 l rows j acc = some a) ∧ Aside0 (kq ≤ k) ∧ Aside0 ((acc.length : Int) ≤ j * 64) ∧ Aside0 (w'.heap[g1]? = some (.cells #[.int .i64 m0, .int .i64 m1, .slice A l.length c] 43 (0, 0))) ∧ Aside0 (w'.heap[g2]? = some (.cells #[.int .i64 0, .int .i64 0, .slice none 0 0] 43 (0, 0))) ∧ Aside0 (w'.heap[g3]? = some (.cells #[.int .i64 (rows.length : Int), .int .i64 m1, u] 43 (0, 0))) ∧ Aside0 (Kd.R (Kd.int .u8) 5 w' w.heap.size (fun _ => True) u acc) ∧ Aside0 (Below w.heap.size w w'))
  case atStart =>
    refine ⟨0, [], .slice none 0 0, rfl, ⟨by omega⟩, HA, ⟨Nat.le_refl _⟩, ⟨by simp⟩, ⟨?_⟩, ⟨?_⟩, ⟨?_⟩, ⟨Kd.R_nil _ _ _ _ _⟩, ⟨?_⟩⟩
    · exact blk_alloc BK1.out _
    · exact blk_alloc BK2.out _
    · rw [hg3]; exact blk_new w1 _
    · exact below_alloc HB.out _
  case round =>
    clear HA HB BK1 BK2 hg1 hg2 hg3 hc10 hc11 hc12 hf10 hf11 hf12 hz1
    obtain ⟨j, acc, u, rfl, H0, HA, HK, HLA0, BK1, BK2, BK3, HO, HB⟩ := hrel
    cases gk with
    | zero => exact absurd HA.out (by simp [mat_Take.l0])
    | succ k1 =>
      have H := HA.out
      clear HA
      rw [mat_Take.l0] at H
      have h0 := H0.out
      by_cases hlt : j < (rows.length : Int)
      · rw [if_pos hlt] at H
        obtain ⟨rw_, hrw, H⟩ := Option.bind_eq_some_iff.mp H
        obtain ⟨acc2, ha2⟩ : ∃ y, acc ++ rw_ = y := ⟨_, rfl⟩
        rw [ha2] at H
        have HAC := Aside0.mk ha2
        have H' := Aside0.mk H
        unfold takeRow at hrw
        obtain ⟨adr, rfl, hx⟩ := C_at_ (Kd.C_below HR2.out HB.out) j h0 hlt
        obtain ⟨x, hxe⟩ : ∃ x, rd rows j = x := ⟨_, rfl⟩
        rw [hxe] at hrw hx
        by_cases hx0 : 0 ≤ x
        rotate_left
        · rw [if_neg hx0] at hrw; cases hrw
        by_cases hx1 : x < m0
        rotate_left
        · rw [if_pos hx0, if_neg hx1] at hrw; cases hrw
        rw [if_pos hx0, if_pos hx1] at hrw
        have HRW := Aside0.mk (Option.some.inj hrw)
        have hrl : rw_.length ≤ 64 := by
          rw [← HRW.out, List.length_take]
          have := HF.out.2.2.2.1
          omega
        have HLA : Aside0 (acc.length + m1.toNat ≤ 100000) := ⟨by have := HLA0.out; have := HLL.out; have := HF.out.2.2.2.1; omega⟩
        have HLB : Aside0 (((acc ++ rw_).length : Int) ≤ (j + 1) * 64) := ⟨by have := HLA0.out; rw [List.length_append]; omega⟩
        have hw1 : wrap64 (j + 1) = j + 1 := by have := HLL.out; unfold wrap64; omega
        obtain ⟨hc10, hc11, hc12, hf10, hf11, hf12⟩ := box3 BK1.out
        rw [ha2] at HLB
        clear H hrw hrl hxe ha2
        go_wp2
        refine start_ (n := 8) (S := fun w' => w'.cell? ⟨g3, 2, none⟩ = some u ∧ w'.cell? ⟨g1, 0, none⟩ = some (.int .i64 m0) ∧ w'.cell? ⟨g1, 1, none⟩ = some (.int .i64 m1) ∧ w'.cell? ⟨g1, 2, none⟩ = some (.slice A l.length c) ∧ w'.frozen? ⟨g3, 2, none⟩ = false) (ds := [7]) #[false, false, false, false, false, false, false, false] (by kernel_rfl) rfl rfl ⟨(blk_cell BK3.out 2).trans rfl, (blk_cell BK1.out 0).trans rfl, (blk_cell BK1.out 1).trans rfl, (blk_cell BK1.out 2).trans rfl, blk_frozen BK3.out 2⟩ (fun hHeld => ?_)
        refine pure_ (i := 0) (N := some 40) (v := ?_) (a' := ?_) #[true, false, false, false, false, false, false, false] rfl rfl (by kernel_rfl) (fun _ _ _ h => h) (Or.inl ⟨by rfl, ?_⟩) ?_ ?_
        rotate_left
        · intro w'
          go_simp
          with_reducible rfl
        rotate_left
        · simp only [Act.put, List.setIfInBounds_toArray, List.set_cons_zero, List.set_cons_succ, i64_w, i32_w]
          rfl
        refine take_ (i := 1) (N := some 41) (v := ?_) (a' := ?_) #[true, true, false, false, false, false, false, false] rfl rfl (by kernel_rfl) (fun _ _ _ h => h) (Or.inl ⟨by rfl, ?_⟩) hHeld ?_ ?_
        rotate_left
        · rintro w' ⟨s0, s1, s2, s3, s4⟩
          go_simp
          with_reducible rfl
        rotate_left
        · simp only [Act.put, List.setIfInBounds_toArray, List.set_cons_zero, List.set_cons_succ, i64_w, i32_w]
          rfl
        refine take_ (i := 2) (N := some 42) (v := ?_) (a' := ?_) #[true, true, true, false, false, false, false, false] rfl rfl (by kernel_rfl) (fun _ _ _ h => h) (Or.inl ⟨by rfl, ?_⟩) hHeld ?_ ?_
        rotate_left
        · rintro w' ⟨s0, s1, s2, s3, s4⟩
          go_simp
          with_reducible rfl
        rotate_left
        · simp only [Act.put, List.setIfInBounds_toArray, List.set_cons_zero, List.set_cons_succ, i64_w, i32_w]
          rfl
        refine pure_ (i := 3) (N := some 43) (v := ?_) (a' := ?_) #[true, true, true, true, false, false, false, false] rfl rfl (by kernel_rfl) (fun _ _ _ h => h) (Or.inl ⟨by rfl, ?_⟩) ?_ ?_
        rotate_left
        · intro w'
          go_simp
          with_reducible rfl
        rotate_left
        · simp only [Act.put, List.setIfInBounds_toArray, List.set_cons_zero, List.set_cons_succ, i64_w, i32_w]
          rfl
        refine one_ (i := 4) (N := some 44) #[true, true, true, true, true, false, false, false] rfl rfl (by kernel_rfl) (by decide) (fun K hK => ?_)
        refine goes_ Tryd.func45 (by kernel_rfl) rfl #[.agg #[.int .i64 m0, .int .i64 m1, .slice A l.length c], .int .i64 x] (by rfl) rfl rfl (by (try simp only [List.map_toArray, List.map_cons, List.map_nil]); first | done | rfl) ?_
        (with_reducible refine (mat_line_in (Kd.C_below HR.out (below_step HB.out (below_drew (Below.refl _ _)))) HC.out HF.out hx0 hx1).mono ?_)
        rintro e w5 ⟨⟨Al, cl, hcl, rfl, hcut⟩, hb⟩
        refine ⟨_, rfl, ?_⟩
        have HB5 := Aside0.mk (below_step (below_step HB.out (below_drew (Below.refl _ _))) hb)
        have K1 := Aside0.mk (blk_below BK1.out (below_step (below_drew (Below.refl _ _)) hb))
        have K2 := Aside0.mk (blk_below BK2.out (below_step (below_drew (Below.refl _ _)) hb))
        have K3 := Aside0.mk (blk_below BK3.out (below_step (below_drew (Below.refl _ _)) hb))
        have HO5 := Aside0.mk (Kd.R_below HO.out (below_step (below_drew (Below.refl _ _)) hb))
        have HCUT := Aside0.mk (hcut _ (Kd.C_below HR.out HB5.out))
        clear hb hcut BK1 BK2 BK3 HO HB
        refine hK.out _ _ ⟨(blk_cell K3.out 2).trans rfl, (blk_cell K1.out 0).trans rfl, (blk_cell K1.out 1).trans rfl, (blk_cell K1.out 2).trans rfl, blk_frozen K3.out 2⟩ (fun hHeld => ?_)
        clear hK K
        refine norm_ (a' := ?_) ?_ ?_
        rotate_left
        · show Act.put _ (some 44) _ = _
          simp only [Act.put, List.setIfInBounds_toArray, List.set_cons_zero, List.set_cons_succ, i64_w, i32_w]
          rfl
        refine one_ (i := 5) (N := some 45) #[true, true, true, true, true, true, false, false] rfl rfl (by kernel_rfl) (by decide) (fun K hK => ?_)
        refine Kd.R_append_rows_step (Kd.int .u8) (w0 := w) w.heap.size (by rfl) (.tmp 41) (.tmp 44) 39 5 (.int .u8 0) 1 rfl Tryd.underlying39 info5e rfl (by decide) (by omega) u acc rw_ _ _ _ (fun _ => True) (fun _ => False) rfl rfl HO5.out ?aR (fun _ _ h => h) (fun _ h => h.elim) (fun _ _ => trivial) HB5.out (below_size HB5.out) ?aL ?_
        (case aR => have h_ := HCUT.out; rw [Nat.add_sub_cancel_left, HRW.out] at h_; exact h_)
        (case aL => have := HLA.out; omega)
        intro u2 w6 ho hb hg hat
        rw [HAC.out] at ho
        have L1 := Aside0.mk (blk_grown K1.out hg (Kd.R_ne HO5.out K1.out (by decide)))
        have L2 := Aside0.mk (blk_grown K2.out hg (Kd.R_ne HO5.out K2.out (by decide)))
        have L3 := Aside0.mk (blk_grown K3.out hg (Kd.R_ne HO5.out K3.out (by decide)))
        have HO6 := Aside0.mk ho
        have HB6 := Aside0.mk hb
        clear ho hb hg hat K1 K2 K3 HO5 HB5
        obtain ⟨A6, c6, hu6⟩ := Kd.R_slice HO6.out
        subst hu6
        refine hK.out _ _ ⟨(blk_cell L3.out 2).trans rfl, (blk_cell L1.out 0).trans rfl, (blk_cell L1.out 1).trans rfl, (blk_cell L1.out 2).trans rfl, blk_frozen L3.out 2⟩ (fun hHeld => ?_)
        clear hK K
        refine norm_ (a' := ?_) ?_ ?_
        rotate_left
        · show Act.put _ (some 45) _ = _
          simp only [Act.put, List.setIfInBounds_toArray, List.set_cons_zero, List.set_cons_succ, i64_w, i32_w]
          rfl
        refine pure_ (i := 6) (N := some 46) (v := ?_) (a' := ?_) #[true, true, true, true, true, true, true, false] rfl rfl (by kernel_rfl) (fun _ _ _ h => h) (Or.inl ⟨by rfl, ?_⟩) ?_ ?_
        rotate_left
        · intro w'
          go_simp
          with_reducible rfl
        rotate_left
        · simp only [Act.put, List.setIfInBounds_toArray, List.set_cons_zero, List.set_cons_succ, i64_w, i32_w]
          rfl
        refine last_ (i := 7) (N := none) #[true, true, true, true, true, true, true, true] rfl rfl (by kernel_rfl) (by decide) (fun K hK => ?_)
        refine skip_ (w1 := ?_) (by rfl) rfl ?_ ?_
        rotate_left
        · go_simp
          rfl
        refine hK.out _ _ ?_
        clear hK K
        refine done_ (by kernel_rfl) ?_
        have M3 := Aside0.mk (box_put2 L3.out (.slice A6 acc2.length c6))
        go_wp2
        go_roundg k1
        case measure => have := HK.out; omega
        case rel => exact ⟨j + 1, acc2, _, by first | rfl | simp [hw1], ⟨by omega⟩, H', ⟨by have := HK.out; omega⟩, HLB, ⟨blk_far L1.out N13.out _⟩, ⟨blk_far L2.out N23.out _⟩, M3, ⟨Kd.R_mono (Kd.R_far (p := ⟨g3, 2, none⟩) (Kd.R_types HO6.out L3.out (by decide)) (fun _ hk => hk.2) _) (fun _ _ => trivial)⟩, ⟨below_setB _ _ HB6.out G3.out⟩⟩
      · rw [if_neg hlt] at H
        obtain rfl := Option.some.inj H
        clear H
        obtain ⟨hc20, hc21, hc22, hf20, hf21, hf22⟩ := box3 BK2.out
        obtain ⟨hc30, hc31, hc32, hf30, hf31, hf32⟩ := box3 BK3.out
        obtain ⟨A9, c9, hu9⟩ := Kd.R_slice HO.out
        subst hu9
        have hj : ¬ j < (rows.length : Int) := hlt
        go_wp2
        refine bodyPost_ret (results_ct rfl _ _ g2 43 #[.int .i64 (rows.length : Int), .int .i64 m1, .slice A9 acc.length c9] (0, 0) _ rfl (box3_set BK2.out _ _ _) Tryd.underlying43 rfl (by kernel_rfl)) rfl ?_
        exact ⟨_, rfl, Kd.R_mono (Kd.R_far (Kd.R_far (Kd.R_far (Kd.R_types HO.out BK2.out (by decide)) (fun _ hk => hk.2) _) (fun _ hk => hk.2) _) (fun _ hk => hk.2) _) (fun _ _ => trivial), below_setB _ _ (below_setB _ _ (below_setB _ _ HB.out G2.out) G2.out) G2.out⟩

theorem mat_Take.mono_l : ∀ k, (∀ y0 y1 y2 y3 y4 y5, LeO (mat_Take.l0 k y0 y1 y2 y3 y4 y5) (mat_Take.l0 (k + 1) y0 y1 y2 y3 y4 y5))
  | 0 => fun _ _ _ _ _ _ r h => by simp [mat_Take.l0] at h
  | k + 1 => by
    have ih := mat_Take.mono_l k
    intro y0 y1 y2 y3 y4 y5
    unfold mat_Take.l0
    exact LeO.ite (LeO.bind (LeO.refl _) (fun _ => ih _ _ _ _ _ _)) (LeO.refl _)
theorem mat_Take.mono (m0 m1 : Int) (l rows : List Int) (k : Nat) : LeO (mat_Take.f k m0 m1 l rows) (mat_Take.f (k + 1) m0 m1 l rows) :=
  LeO.ite (LeO.ite (LeO.bind (mat_Take.mono_l k _ _ _ _ _ _) (fun _ => LeO.refl _)) (LeO.refl _)) (LeO.refl _)
theorem mat_Take.calls (k : Nat) (a0_0 : Int) (a0_1 : Int) (A0_2 : Option Addr) (c0_2 : Nat) (l0_2 : List Int) (A1 : Option Addr) (c1 : Nat) (l1 : List Int) (r1 : Int) (r2 : Int) (r3 : List Int) (r4 : Option Int) (w : World) (hr0_2 : Kd.C (Kd.int .u8) w A0_2 l0_2.length l0_2) (hc0_2 : l0_2.length ≤ c0_2) (hr1 : Kd.C (Kd.int .i64) w A1 l1.length l1) (hc1 : l1.length ≤ c1) (h : mat_Take.f k a0_0 a0_1 l0_2 l1 = some (r1, r2, r3, r4)) (hS : Sent mat_Take.L w) :
    Calls Tryd.prog 30 #[.agg #[.int .i64 a0_0, .int .i64 a0_1, .slice A0_2 l0_2.length c0_2], .slice A1 l1.length c1] w fun e w' => ∃ v2_ : Value, e = .returned (.tuple #[.agg #[.int .i64 r1, .int .i64 r2, v2_], errW r4]) ∧ Kd.R (Kd.int .u8) 5 w' w.heap.size (fun _ => True) v2_ r3 ∧ Below w.heap.size w w' := by
  unfold mat_Take.f at h
  by_cases h0 : l1.length ≤ 64
  rotate_left
  · rw [if_neg h0] at h; cases h
  by_cases h1 : mat_Check.f a0_0 a0_1 l0_2 = some none
  rotate_left
  · rw [if_pos h0, if_neg h1] at h; cases h
  rw [if_pos h0, if_pos h1] at h
  obtain ⟨a, ha, h⟩ := Option.bind_eq_some_iff.mp h
  obtain ⟨rfl, rfl, rfl, rfl⟩ : (l1.length : Int) = r1 ∧ a0_1 = r2 ∧ a = r3 ∧ none = r4 := by simpa using h
  rw [errW_none]
  exact mat_Take.go k a0_0 a0_1 A0_2 c0_2 l0_2 A1 c1 l1 a w hr0_2 hc0_2 hr1 hc1 h0 h1 ha hS

end Go.Proofs.YtnnondbimdmcaaaDoor

namespace Go.Proofs.YtnnondbimdmcaaaDoor.Lin
set_option linter.unusedVariables false

abbrev GF := BitVec 8
def dbl (x : GF) : GF := (x <<< 1) ^^^ (if x.msb then 0x1d#8 else 0#8)
theorem dbl_xor (x y : GF) : dbl (x ^^^ y) = dbl x ^^^ dbl y := by
  unfold dbl
  rw [BitVec.shiftLeft_xor_distrib, BitVec.msb_xor]
  cases x.msb <;> cases y.msb <;> simp
  · ac_rfl
  · ac_rfl
  · have : ∀ a b c : GF, a ^^^ b = a ^^^ c ^^^ (b ^^^ c) := by
      intro a b c
      have h : a ^^^ c ^^^ (b ^^^ c) = a ^^^ b ^^^ (c ^^^ c) := by ac_rfl
      rw [h, BitVec.xor_self, BitVec.xor_zero]
    exact this _ _ _
def mulN : Nat → GF → Nat → GF
  | 0, _, _ => 0
  | n + 1, x, y => (if y % 2 = 1 then x else 0) ^^^ mulN n (dbl x) (y / 2)
def mul (x y : GF) : GF := mulN 8 x y.toNat
theorem mulN_xor (n : Nat) : ∀ (x x' : GF) (y : Nat), mulN n (x ^^^ x') y = mulN n x y ^^^ mulN n x' y := by
  induction n with
  | zero => intro x x' y; simp [mulN]
  | succ n ih =>
    intro x x' y
    rw [mulN, mulN, mulN, dbl_xor, ih]
    by_cases h : y % 2 = 1
    · rw [if_pos h, if_pos h, if_pos h]; ac_rfl
    · rw [if_neg h, if_neg h, if_neg h]
      have : (0 : GF) ^^^ (0 : GF) = 0 := rfl
      simp
theorem xor_mod2 (a b : Nat) : (a ^^^ b) % 2 = (a % 2 + b % 2) % 2 := by
  have h := Nat.testBit_xor (x := a) (y := b) (i := 0)
  rw [Nat.testBit_zero, Nat.testBit_zero, Nat.testBit_zero] at h
  have h1 : a % 2 = 0 ∨ a % 2 = 1 := by omega
  have h2 : b % 2 = 0 ∨ b % 2 = 1 := by omega
  have h3 : (a ^^^ b) % 2 = 0 ∨ (a ^^^ b) % 2 = 1 := by omega
  rcases h1 with h1 | h1 <;> rcases h2 with h2 | h2 <;> rcases h3 with h3 | h3 <;> rw [h1, h2, h3] at h <;> first | omega | (exact absurd h (by decide))
theorem xor_div2 (a b : Nat) : (a ^^^ b) / 2 = (a / 2) ^^^ (b / 2) := by
  apply Nat.eq_of_testBit_eq
  intro i
  rw [Nat.testBit_xor, Nat.testBit_div_two, Nat.testBit_div_two, Nat.testBit_div_two, Nat.testBit_xor]
theorem mulN_xor_right (n : Nat) : ∀ (x : GF) (y y' : Nat), mulN n x (y ^^^ y') = mulN n x y ^^^ mulN n x y' := by
  induction n with
  | zero => intro x y y'; simp [mulN]
  | succ n ih =>
    intro x y y'
    rw [mulN, mulN, mulN, xor_mod2, xor_div2, ih]
    have h1 : y % 2 = 0 ∨ y % 2 = 1 := by omega
    have h2 : y' % 2 = 0 ∨ y' % 2 = 1 := by omega
    rcases h1 with h1 | h1 <;> rcases h2 with h2 | h2 <;> simp [h1, h2]
    · ac_rfl
    · ac_rfl
    · have : ∀ a b c : GF, b ^^^ c = a ^^^ b ^^^ (a ^^^ c) := by
        intro a b c
        have h : a ^^^ b ^^^ (a ^^^ c) = (a ^^^ a) ^^^ (b ^^^ c) := by ac_rfl
        rw [h, BitVec.xor_self, BitVec.zero_xor]
      exact this _ _ _
theorem xor_mul (x x' y : GF) : mul (x ^^^ x') y = mul x y ^^^ mul x' y := mulN_xor 8 x x' _
theorem mul_xor (x y y' : GF) : mul x (y ^^^ y') = mul x y ^^^ mul x y' := by unfold mul; rw [BitVec.toNat_xor]; exact mulN_xor_right 8 x _ _

/-- What is told of the eight bits is told of all. -/
theorem bits_of : ((List.range 256).all fun n => decide (BitVec.ofNat 8 n = (if n % 2 = 1 then 1#8 else 0#8) ^^^ (if n / 2 % 2 = 1 then 2#8 else 0#8) ^^^ (if n / 4 % 2 = 1 then 4#8 else 0#8) ^^^ (if n / 8 % 2 = 1 then 8#8 else 0#8) ^^^ (if n / 16 % 2 = 1 then 16#8 else 0#8) ^^^ (if n / 32 % 2 = 1 then 32#8 else 0#8) ^^^ (if n / 64 % 2 = 1 then 64#8 else 0#8) ^^^ (if n / 128 % 2 = 1 then 128#8 else 0#8))) = true := by kernel_rfl
theorem by_bits (f g : GF → GF) (hf : ∀ x y, f (x ^^^ y) = f x ^^^ f y) (hg : ∀ x y, g (x ^^^ y) = g x ^^^ g y)
    (h : f 1#8 = g 1#8 ∧ f 2#8 = g 2#8 ∧ f 4#8 = g 4#8 ∧ f 8#8 = g 8#8 ∧ f 16#8 = g 16#8 ∧ f 32#8 = g 32#8 ∧ f 64#8 = g 64#8 ∧ f 128#8 = g 128#8) (x : GF) : f x = g x := by
  have f0 : f 0#8 = 0#8 := by
    have := hf 0#8 0#8
    rw [BitVec.xor_self, BitVec.xor_self] at this
    exact this
  have g0 : g 0#8 = 0#8 := by
    have := hg 0#8 0#8
    rw [BitVec.xor_self, BitVec.xor_self] at this
    exact this
  have hi : ∀ (c : Prop) [Decidable c] (b : GF), f b = g b → f (if c then b else 0#8) = g (if c then b else 0#8) := by
    intro c _ b hb
    by_cases hc : c
    · rw [if_pos hc, hb]
    · rw [if_neg hc, f0, g0]
  have hx := of_decide_eq_true (List.all_eq_true.1 bits_of x.toNat (List.mem_range.2 x.isLt))
  rw [BitVec.ofNat_toNat, BitVec.setWidth_eq] at hx
  obtain ⟨h1, h2, h3, h4, h5, h6, h7, h8⟩ := h
  rw [hx]
  simp only [hf, hg]
  rw [hi _ _ h1, hi _ _ h2, hi _ _ h3, hi _ _ h4, hi _ _ h5, hi _ _ h6, hi _ _ h7, hi _ _ h8]

theorem mul_comm (x y : GF) : mul x y = mul y x := by
  have key : ∀ b ∈ ([1#8, 2#8, 4#8, 8#8, 16#8, 32#8, 64#8, 128#8] : List GF), ∀ y, mul b y = mul y b := by
    intro b hb y
    refine by_bits (fun y => mul b y) (fun y => mul y b) (fun _ _ => mul_xor _ _ _) (fun _ _ => xor_mul _ _ _) ?_ y
    simp only [List.mem_cons, List.not_mem_nil, or_false] at hb
    rcases hb with rfl | rfl | rfl | rfl | rfl | rfl | rfl | rfl <;> decide
  refine by_bits (fun x => mul x y) (fun x => mul y x) (fun _ _ => xor_mul _ _ _) (fun _ _ => mul_xor _ _ _) ⟨?_, ?_, ?_, ?_, ?_, ?_, ?_, ?_⟩ x
  all_goals exact key _ (by simp) y
theorem mul_assoc (x y z : GF) : mul (mul x y) z = mul x (mul y z) := by
  have k2 : ∀ b ∈ ([1#8, 2#8, 4#8, 8#8, 16#8, 32#8, 64#8, 128#8] : List GF), ∀ c ∈ ([1#8, 2#8, 4#8, 8#8, 16#8, 32#8, 64#8, 128#8] : List GF), ∀ z, mul (mul b c) z = mul b (mul c z) := by
    intro b hb c hc z
    refine by_bits (fun z => mul (mul b c) z) (fun z => mul b (mul c z)) (fun _ _ => mul_xor _ _ _) (fun _ _ => by simp only [mul_xor]) ?_ z
    simp only [List.mem_cons, List.not_mem_nil, or_false] at hb hc
    rcases hb with rfl | rfl | rfl | rfl | rfl | rfl | rfl | rfl <;> rcases hc with rfl | rfl | rfl | rfl | rfl | rfl | rfl | rfl <;> decide
  have k1 : ∀ b ∈ ([1#8, 2#8, 4#8, 8#8, 16#8, 32#8, 64#8, 128#8] : List GF), ∀ y z, mul (mul b y) z = mul b (mul y z) := by
    intro b hb y z
    refine by_bits (fun y => mul (mul b y) z) (fun y => mul b (mul y z)) (fun _ _ => by simp only [mul_xor, xor_mul]) (fun _ _ => by simp only [mul_xor, xor_mul]) ⟨?_, ?_, ?_, ?_, ?_, ?_, ?_, ?_⟩ y
    all_goals exact k2 b hb _ (by simp) z
  refine by_bits (fun x => mul (mul x y) z) (fun x => mul x (mul y z)) (fun _ _ => by simp only [xor_mul]) (fun _ _ => by simp only [xor_mul]) ⟨?_, ?_, ?_, ?_, ?_, ?_, ?_, ?_⟩ x
  all_goals exact k1 _ (by simp) y z
theorem one_mul (x : GF) : mul 1#8 x = x := by
  refine by_bits (fun x => mul 1#8 x) (fun x => x) (fun _ _ => mul_xor _ _ _) (fun _ _ => rfl) ?_ x
  decide
theorem zero_mul (x : GF) : mul 0#8 x = 0#8 := by
  have := xor_mul 0#8 0#8 x
  rw [BitVec.xor_self, BitVec.xor_self] at this
  exact this
theorem mul_zero (x : GF) : mul x 0#8 = 0#8 := by rw [mul_comm, zero_mul]
theorem mul_one (x : GF) : mul x 1#8 = x := by rw [mul_comm, one_mul]
/-- A power, for inverses. -/
def invs : Nat → GF → GF
  | 0, _ => 1#8
  | n + 1, x => mul (mul x x) (invs n (mul x x))
def inv (x : GF) : GF := invs 7 x
theorem inv_all : ((List.range 256).all fun n => n == 0 || decide (mul (BitVec.ofNat 8 n) (inv (BitVec.ofNat 8 n)) = 1#8)) = true := by kernel_rfl
theorem mul_inv {x : GF} (h : x ≠ 0#8) : mul x (inv x) = 1#8 := by
  have hx := List.all_eq_true.1 inv_all x.toNat (List.mem_range.2 x.isLt)
  rw [BitVec.ofNat_toNat, BitVec.setWidth_eq] at hx
  have h0 : (x.toNat == 0) = false := by
    apply beq_eq_false_iff_ne.2
    intro e
    exact h (BitVec.eq_of_toNat_eq (by simpa using e))
  rw [h0, Bool.false_or] at hx
  exact of_decide_eq_true hx
theorem mul_ne {x y : GF} (hx : x ≠ 0#8) (hy : y ≠ 0#8) : mul x y ≠ 0#8 := by
  intro h
  apply hy
  have : mul (inv x) (mul x y) = 0#8 := by rw [h, mul_zero]
  rw [← mul_assoc, mul_comm (inv x), mul_inv hx, one_mul] at this
  exact this
theorem mul_cancel {c x : GF} (hc : c ≠ 0#8) (h : mul c x = 0#8) : x = 0#8 := by
  by_cases hx : x = 0#8
  · exact hx
  · exact absurd h (mul_ne hc hx)
theorem xor_eq_zero {x y : GF} (h : x ^^^ y = 0#8) : x = y := by
  have : x ^^^ y ^^^ y = 0#8 ^^^ y := by rw [h]
  rw [BitVec.xor_assoc, BitVec.xor_self, BitVec.xor_zero, BitVec.zero_xor] at this
  exact this
end Go.Proofs.YtnnondbimdmcaaaDoor.Lin

namespace Go.Proofs.YtnnondbimdmcaaaDoor.Lin
set_option linter.unusedVariables false

def xsum : Nat → (Nat → GF) → GF
  | 0, _ => 0#8
  | n + 1, f => xsum n f ^^^ f n
theorem xsum_congr {n : Nat} {f g : Nat → GF} (h : ∀ j, j < n → f j = g j) : xsum n f = xsum n g := by
  induction n with
  | zero => rfl
  | succ n ih => rw [xsum, xsum, ih (fun j hj => h j (by omega)), h n (by omega)]
theorem xsum_xor (n : Nat) (f g : Nat → GF) : xsum n (fun j => f j ^^^ g j) = xsum n f ^^^ xsum n g := by
  induction n with
  | zero => simp [xsum]
  | succ n ih => rw [xsum, xsum, xsum, ih]; ac_rfl
theorem xsum_mul (n : Nat) (c : GF) (f : Nat → GF) : xsum n (fun j => mul c (f j)) = mul c (xsum n f) := by
  induction n with
  | zero => rw [xsum, xsum, mul_zero]
  | succ n ih => rw [xsum, xsum, ih, mul_xor]
theorem xsum_zero {n : Nat} {f : Nat → GF} (h : ∀ j, j < n → f j = 0#8) : xsum n f = 0#8 := by
  induction n with
  | zero => rfl
  | succ n ih => rw [xsum, ih (fun j hj => h j (by omega)), h n (by omega), BitVec.xor_zero]
theorem xsum_single {n : Nat} {f : Nat → GF} (i : Nat) (hi : i < n) (h : ∀ j, j < n → j ≠ i → f j = 0#8) : xsum n f = f i := by
  induction n with
  | zero => omega
  | succ n ih =>
    rw [xsum]
    rcases Nat.lt_or_ge i n with h1 | h1
    · rw [ih h1 (fun j hj hne => h j (by omega) hne), h n (by omega) (by omega), BitVec.xor_zero]
    · obtain rfl : i = n := by omega
      rw [xsum_zero (fun j hj => h j (by omega) (by omega)), BitVec.zero_xor]
theorem xsum_two {n : Nat} {f : Nat → GF} (i c : Nat) (hi : i < n) (hc : c < n) (hne : i ≠ c) (h : ∀ j, j < n → j ≠ i → j ≠ c → f j = 0#8) : xsum n f = f i ^^^ f c := by
  have h1 : xsum n f = xsum n (fun j => (if j = i then f j else 0#8) ^^^ (if j = i then 0#8 else f j)) := xsum_congr (fun j _ => by by_cases e : j = i <;> simp [e])
  rw [h1, xsum_xor, xsum_single i hi (fun j _ hj => if_neg hj), xsum_single c hc (fun j hj hjc => by
    by_cases e : j = i
    · rw [if_pos e]
    · rw [if_neg e]; exact h j hj e hjc), if_pos rfl, if_neg (fun e => hne e.symm)]

def lsum {α : Type} : List α → (α → GF) → GF
  | [], _ => 0#8
  | a :: ys, f => f a ^^^ lsum ys f
section
variable {α : Type}
theorem lsum_congr {l : List α} {f g : α → GF} (h : ∀ b, b ∈ l → f b = g b) : lsum l f = lsum l g := by
  induction l with
  | nil => rfl
  | cons a ys ih => rw [lsum, lsum, ih (fun b hb => h b (List.mem_cons_of_mem _ hb)), h a List.mem_cons_self]
theorem lsum_xor (l : List α) (f g : α → GF) : lsum l (fun j => f j ^^^ g j) = lsum l f ^^^ lsum l g := by
  induction l with
  | nil => simp [lsum]
  | cons a ys ih => rw [lsum, lsum, lsum, ih]; ac_rfl
theorem lsum_mul (l : List α) (c : GF) (f : α → GF) : lsum l (fun j => mul c (f j)) = mul c (lsum l f) := by
  induction l with
  | nil => rw [lsum, lsum, mul_zero]
  | cons a ys ih => rw [lsum, lsum, ih, mul_xor]
theorem lsum_zero {l : List α} {f : α → GF} (h : ∀ b, b ∈ l → f b = 0#8) : lsum l f = 0#8 := by
  induction l with
  | nil => rfl
  | cons a ys ih => rw [lsum, ih (fun b hb => h b (List.mem_cons_of_mem _ hb)), h a List.mem_cons_self, BitVec.xor_zero]
end
theorem xor_cancel (a b : GF) : a ^^^ (a ^^^ b) = b := by rw [← BitVec.xor_assoc, BitVec.xor_self, BitVec.zero_xor]
theorem ne_xor {a b : GF} (h : a ≠ b) : a ^^^ b ≠ 0#8 := fun e => h (xor_eq_zero e)
theorem inv_add {u v : GF} (hu : u ≠ 0#8) (hv : v ≠ 0#8) : inv u ^^^ inv v = mul (u ^^^ v) (mul (inv u) (inv v)) := by
  rw [xor_mul, ← mul_assoc, mul_inv hu, one_mul, mul_comm (inv u), ← mul_assoc, mul_inv hv, one_mul]
  exact BitVec.xor_comm _ _

theorem cauchy : ∀ (bs ys : List GF) (x : GF → GF), bs.Nodup → ys.Nodup → ys.length = bs.length → (∀ a, a ∈ ys → ∀ b, b ∈ bs → a ≠ b) →
    (∀ a, a ∈ ys → lsum bs (fun b => mul (x b) (inv (a ^^^ b))) = 0#8) → ∀ b, b ∈ bs → x b = 0#8 := by
  intro bs
  induction bs with
  | nil => intro ys x _ _ _ _ _ b hb; simp at hb
  | cons bm bs ih =>
    intro ys x hbn han hlen hne heq
    cases ys with
    | nil => simp at hlen
    | cons am ys =>
      obtain ⟨hbm, hbn'⟩ := List.nodup_cons.1 hbn
      obtain ⟨ham, han'⟩ := List.nodup_cons.1 han
      have hab : ∀ a, a ∈ am :: ys → ∀ b, b ∈ bm :: bs → a ^^^ b ≠ 0#8 := fun a ha b hb => ne_xor (hne a ha b hb)
      -- T a = S
      have hT : ∀ a, a ∈ am :: ys → lsum bs (fun b => mul (mul (x b) (b ^^^ bm)) (inv (a ^^^ b))) = x bm ^^^ lsum bs x := by
        intro a ha
        have h0 := heq a ha
        rw [lsum] at h0
        have h1 : mul (a ^^^ bm) (mul (x bm) (inv (a ^^^ bm)) ^^^ lsum bs (fun b => mul (x b) (inv (a ^^^ b)))) = 0#8 := by rw [h0, mul_zero]
        rw [mul_xor, ← lsum_mul, mul_comm (x bm), ← mul_assoc, mul_inv (hab a ha bm List.mem_cons_self), one_mul] at h1
        have h2 : lsum bs (fun b => mul (a ^^^ bm) (mul (x b) (inv (a ^^^ b)))) = lsum bs (fun b => x b ^^^ mul (mul (x b) (b ^^^ bm)) (inv (a ^^^ b))) := by
          refine lsum_congr (fun b hb => ?_)
          have e : a ^^^ bm = (a ^^^ b) ^^^ (b ^^^ bm) := by
            have : (a ^^^ b) ^^^ (b ^^^ bm) = a ^^^ (b ^^^ b) ^^^ bm := by ac_rfl
            rw [this, BitVec.xor_self, BitVec.xor_zero]
          rw [e, xor_mul]
          congr 1
          · rw [mul_comm (x b), ← mul_assoc, mul_inv (hab a ha b (List.mem_cons_of_mem _ hb)), one_mul]
          · rw [← mul_assoc, mul_comm (b ^^^ bm)]
        rw [h2, lsum_xor, ← BitVec.xor_assoc] at h1
        exact (xor_eq_zero h1).symm
      have hu : ∀ b, b ∈ bs → mul (mul (x b) (b ^^^ bm)) (inv (am ^^^ b)) = 0#8 := by
        refine ih ys (fun b => mul (mul (x b) (b ^^^ bm)) (inv (am ^^^ b))) hbn' han' (by simpa using hlen) (fun a ha b hb => hne a (List.mem_cons_of_mem _ ha) b (List.mem_cons_of_mem _ hb)) ?_
        intro a ha
        have h1 := hT a (List.mem_cons_of_mem _ ha)
        have h2 := hT am List.mem_cons_self
        have h3 : lsum bs (fun b => mul (mul (x b) (b ^^^ bm)) (inv (a ^^^ b))) ^^^ lsum bs (fun b => mul (mul (x b) (b ^^^ bm)) (inv (am ^^^ b))) = 0#8 := by rw [h1, h2, BitVec.xor_self]
        rw [← lsum_xor] at h3
        have h4 : lsum bs (fun b => mul (mul (x b) (b ^^^ bm)) (inv (a ^^^ b)) ^^^ mul (mul (x b) (b ^^^ bm)) (inv (am ^^^ b))) = lsum bs (fun b => mul (a ^^^ am) (mul (mul (mul (x b) (b ^^^ bm)) (inv (am ^^^ b))) (inv (a ^^^ b)))) := by
          refine lsum_congr (fun b hb => ?_)
          rw [← mul_xor, inv_add (hab a (List.mem_cons_of_mem _ ha) b (List.mem_cons_of_mem _ hb)) (hab am List.mem_cons_self b (List.mem_cons_of_mem _ hb))]
          have e : (a ^^^ b) ^^^ (am ^^^ b) = a ^^^ am := by
            have : (a ^^^ b) ^^^ (am ^^^ b) = (a ^^^ am) ^^^ (b ^^^ b) := by ac_rfl
            rw [this, BitVec.xor_self, BitVec.xor_zero]
          rw [e, ← mul_assoc (mul (x b) (b ^^^ bm)) (a ^^^ am), mul_comm (mul (x b) (b ^^^ bm)) (a ^^^ am), mul_assoc (a ^^^ am), mul_assoc (mul (x b) (b ^^^ bm)), mul_comm (inv (am ^^^ b))]
        rw [h4, lsum_mul] at h3
        refine mul_cancel (ne_xor ?_) h3
        rintro rfl
        exact ham ha
      have hx : ∀ b, b ∈ bs → x b = 0#8 := by
        intro b hb
        have hbb : b ^^^ bm ≠ 0#8 := ne_xor (by rintro rfl; exact hbm hb)
        have h1 := hu b hb
        have h2 : mul (inv (am ^^^ b)) (mul (x b) (b ^^^ bm)) = 0#8 := by rw [mul_comm]; exact h1
        have h3 : inv (am ^^^ b) ≠ 0#8 := by
          intro e
          have := mul_inv (hab am List.mem_cons_self b (List.mem_cons_of_mem _ hb))
          rw [e, mul_zero] at this
          exact absurd this (by decide)
        have h4 := mul_cancel h3 h2
        rw [mul_comm] at h4
        exact mul_cancel hbb h4
      intro b hb
      rcases List.mem_cons.1 hb with rfl | hb
      · have h0 := heq am List.mem_cons_self
        rw [lsum, lsum_zero (fun c hc => by rw [hx c hc, zero_mul]), BitVec.xor_zero, mul_comm] at h0
        have h3 : inv (am ^^^ b) ≠ 0#8 := by
          intro e
          have := mul_inv (hab am List.mem_cons_self b List.mem_cons_self)
          rw [e, mul_zero] at this
          exact absurd this (by decide)
        exact mul_cancel h3 h0
      · exact hx b hb
end Go.Proofs.YtnnondbimdmcaaaDoor.Lin

namespace Go.Proofs.YtnnondbimdmcaaaDoor.F
open Go.RowKit Go.Proofs.YtnnondbimdmcaaaDoorW.PrintWords Go.Proofs.YtnnondbimdmcaaaDoorW.PrintLast Go.Proofs.YtnnondbimdmcaaaDoorW.PrintMore
attribute [local go_sem] max2_int min2_int max_two min_two max_three min_three max_four min_four   -- for this text's walks alone
set_option linter.unusedVariables false
set_option linter.unusedSimpArgs false
set_option linter.unusedSectionVars false
open Go.Proofs.YtnnondbimdmcaaaDoor
variable [Errs]

/-! ### half_Parse: function 16 -/
def half_Parse.L : List Int := [1, 4]
def half_Parse.l0 : Nat → Int → Int → ByteArray → Int → Int → Option (Int × Option Int)
  | 0, _, _, _, _, _ => none
  | k + 1, x0, x1, x2, x21, x22 => if x22 < x21 then ((half_Name.f x0 x1 x22).bind fun bt228 => (if bt228.1.toList = x2.toList then (some (x22, none)) else (half_Parse.l0 k x0 x1 x2 x21 (wrap64 (x22 + 1))))) else (some (0, some 4))
def half_Parse.f (k : Nat) (a0 : Int) (a1 : Int) (a2 : ByteArray) : Option (Int × Option Int) := (base_Check.f a0 a1).bind fun t226 => (if t226.isNone = true then (half_Parse.l0 k a0 a1 a2 (wrap64 (2 * (wrap64 (a0 + a1)))) 0) else (some (0, some (t226.getD 0))))
theorem half_Parse.mono_l : ∀ k, (∀ y0 y1 y2 y3 y4, LeO (half_Parse.l0 k y0 y1 y2 y3 y4) (half_Parse.l0 (k + 1) y0 y1 y2 y3 y4))
  | 0 => fun _ _ _ _ _ r h => by simp [half_Parse.l0] at h
  | k + 1 => by
    have ih0 := half_Parse.mono_l k
    · intro y0 y1 y2 y3 y4
      unfold half_Parse.l0
      repeat' first
      | (with_reducible exact ih0 _ _ _ _ _)
      | (with_reducible exact LeO.refl _)
      | (with_reducible exact LeO.none _)
      | (with_reducible refine LeO.ite ?_ ?_)
      | (with_reducible refine LeO.bind ?_ (fun _ => ?_))
      | exact ih0 _ _ _ _ _
      | exact LeO.none _
      | refine LeO.ite ?_ ?_
      | refine LeO.bind ?_ (fun _ => ?_)
theorem half_Parse.mono : ∀ a0 a1 a2 k, LeO (half_Parse.f k a0 a1 a2) (half_Parse.f (k + 1) a0 a1 a2) := by
  intro a0 a1 a2 k
  have ih0 := half_Parse.mono_l k
  unfold half_Parse.f
  repeat' first
      | (with_reducible exact ih0 _ _ _ _ _)
      | (with_reducible exact LeO.refl _)
      | (with_reducible exact LeO.none _)
      | (with_reducible refine LeO.ite ?_ ?_)
      | (with_reducible refine LeO.bind ?_ (fun _ => ?_))
      | exact ih0 _ _ _ _ _
      | exact LeO.none _
      | refine LeO.ite ?_ ?_
      | refine LeO.bind ?_ (fun _ => ?_)
set_option maxHeartbeats 8000000 in
set_option maxRecDepth 100000 in
theorem half_Parse.calls (k : Nat) (a0 : Int) (a1 : Int) (a2 : ByteArray) (r1 : Int) (r2 : Option Int) (w : World) (h : half_Parse.f k a0 a1 a2 = some (r1, r2)) (hS : Sent half_Parse.L w) :
    Calls Tryd.prog 16 #[.int .i64 a0, .int .i64 a1, .string a2] w fun e w' => e = .returned (.tuple #[.int .i64 r1, errW r2]) ∧ Below w.heap.size w w' := by
  have hu27 := Tryd.underlying27
  have HB := Aside0.mk (Below.refl w.heap.size w)
  have HS := Aside0.mk hS
  have hgl4 := Sent.cell hS 4 1 rfl (by decide)
  simp only [errW_some] at hgl4
  have hglw4 := Sent.cell0 hS 4 1 rfl (by decide)
  simp only [errW_some] at hglw4
  clear hS
  have H : ((base_Check.f a0 a1).bind fun t226 => (if t226.isNone = true then (half_Parse.l0 k a0 a1 a2 (wrap64 (2 * (wrap64 (a0 + a1)))) 0) else (some (0, some (t226.getD 0))))) = some (r1, r2) := h
  clear h
  replace H := Option.bind_eq_some_iff.mp H
  obtain ⟨t226, A40, H⟩ := H
  replace H : (if t226.isNone = true then (half_Parse.l0 k a0 a1 a2 (wrap64 (2 * (wrap64 (a0 + a1)))) 0) else (some (0, some (t226.getD 0)))) = some (r1, r2) := H
  have A4 := Aside0.mk A40
  clear A40
  rcases t226 with _ | q227
  · have H1 : (half_Parse.l0 k a0 a1 a2 (wrap64 (2 * (wrap64 (a0 + a1)))) 0) = some (r1, r2) := by rw [if_pos (show (none : Option Int).isNone = true by rfl)] at H; exact H
    clear H
    have H := H1
    clear H1
    try simp only [errW_none, errW_some]
    have H' := Aside0.mk H
    clear H
    go_enter Tryd.func16, Tryd.ntmps16
    go_wp2_with (first | (go_at_call 36; (with_reducible refine (base_Check.calls a0 a1 none _ A4.out (Sent.sub (show ∀ c, c ∈ base_Check.L → c ∈ half_Parse.L by decide) (Sent.below HS.out (by repeat (first | (with_reducible first | exact HB.out | apply below_alloc | apply pw_below_drewN | apply below_drew1) | exact HB.out))))).mono ?_); rintro e w' ⟨rfl, ⟨nd, rfl⟩⟩; (try simp only [errW_none, errW_some]); (try first | exact ⟨rfl, _, World.drewN_drewN _ _ _⟩ | exact ⟨rfl, _, Eq.trans (World.drewN_drewN _ _ _) (congrArg (World.drewN _) (Nat.add_assoc _ _ _))⟩)))
    repeat (go_quiet (first | (go_at_call 36; (with_reducible refine (base_Check.calls a0 a1 none _ A4.out (Sent.sub (show ∀ c, c ∈ base_Check.L → c ∈ half_Parse.L by decide) (Sent.below HS.out (by repeat (first | (with_reducible first | exact HB.out | apply below_alloc | apply pw_below_drewN | apply below_drew1) | exact HB.out))))).mono ?_); rintro e w' ⟨rfl, ⟨nd, rfl⟩⟩; (try simp only [errW_none, errW_some]); (try first | exact ⟨rfl, _, World.drewN_drewN _ _ _⟩ | exact ⟨rfl, _, Eq.trans (World.drewN_drewN _ _ _) (congrArg (World.drewN _) (Nat.add_assoc _ _ _))⟩))); try go_wp2_with (first | (go_at_call 36; (with_reducible refine (base_Check.calls a0 a1 none _ A4.out (Sent.sub (show ∀ c, c ∈ base_Check.L → c ∈ half_Parse.L by decide) (Sent.below HS.out (by repeat (first | (with_reducible first | exact HB.out | apply below_alloc | apply pw_below_drewN | apply below_drew1) | exact HB.out))))).mono ?_); rintro e w' ⟨rfl, ⟨nd, rfl⟩⟩; (try simp only [errW_none, errW_some]); (try first | exact ⟨rfl, _, World.drewN_drewN _ _ _⟩ | exact ⟨rfl, _, Eq.trans (World.drewN_drewN _ _ _) (congrArg (World.drewN _) (Nat.add_assoc _ _ _))⟩))))
    go_loopg [22] k (fun kq v22 w' => ∃ (x22_1 : Int), v22 = .int .i64 x22_1 ∧ Aside0 (half_Parse.l0 kq a0 a1 a2 (wrap64 (2 * (wrap64 (a0 + a1)))) x22_1 = some (r1, r2)) ∧ Aside0 (kq ≤ k) ∧ Aside0 (Below w.heap.size w w'))
    case atStart => exact ⟨(0), (by first | rfl | (simp; done) | (simp [*]; done)), H', ⟨Nat.le_refl _⟩, ⟨by repeat (first | (with_reducible first | exact HB.out | apply below_alloc | apply pw_below_drewN | apply below_drew1) | exact HB.out)⟩⟩
    case round =>
      clear H'
      try clear c1
      try clear p2
      try clear q2
      try clear q227
      obtain ⟨x22_1, rfl, HA, HK1, HB⟩ := hrel
      cases gk with
      | zero => exact absurd HA.out (by simp [half_Parse.l0])
      | succ k1 =>
        have H := HA.out
        clear HA
        first | rw [half_Parse.l0] at H | simp only [half_Parse.l0] at H
        by_cases c5 : x22_1 < (wrap64 (2 * (wrap64 (a0 + a1))))
        · rw [if_pos c5] at H
          have c5b0 : decide (x22_1 < (wrap64 (2 * (wrap64 (a0 + a1))))) = true := decide_eq_true c5
          clear c5
          replace H := Option.bind_eq_some_iff.mp H
          obtain ⟨⟨t228, t229⟩, A60, H⟩ := H
          replace H : (if t228.toList = a2.toList then (some (x22_1, none)) else (half_Parse.l0 k1 a0 a1 a2 (wrap64 (2 * (wrap64 (a0 + a1)))) (wrap64 (x22_1 + 1)))) = some (r1, r2) := H
          have A6 := Aside0.mk A60
          clear A60
          by_cases c7 : t228.toList = a2.toList
          · rw [if_pos c7] at H
            have c7b0 : (t228.toList == a2.toList) = true := beq_iff_eq.mpr c7
            have c7b1 : (t228.toList != a2.toList) = false := bne_eq_false_iff_eq.mpr c7
            clear c7
            simp only [Option.some.injEq, Prod.mk.injEq] at H
            obtain ⟨rfl, rfl⟩ := H
            go_wp2_with (first | (go_at_call 15; (with_reducible refine (half_Name.calls a0 a1 x22_1 t228 t229 _ A6.out (Sent.sub (show ∀ c, c ∈ half_Name.L → c ∈ half_Parse.L by decide) (Sent.below HS.out (by repeat (first | (with_reducible first | exact HB.out | apply below_alloc | apply pw_below_drewN | apply below_drew1) | exact HB.out))))).mono ?_); rintro e w8 ⟨rfl, hb⟩; have n0_ := Aside0.mk (below_step (by repeat (first | (with_reducible first | exact HB.out | apply below_alloc | apply pw_below_drewN | apply below_drew1) | exact HB.out)) hb); clear HB; have HB := n0_; clear n0_; (try clear hb); (try clear hb2); (try clear hk); (try clear hi); (try simp only [errW_none, errW_some])))
            repeat (go_quiet (first | (go_at_call 15; (with_reducible refine (half_Name.calls a0 a1 x22_1 t228 t229 _ A6.out (Sent.sub (show ∀ c, c ∈ half_Name.L → c ∈ half_Parse.L by decide) (Sent.below HS.out (by repeat (first | (with_reducible first | exact HB.out | apply below_alloc | apply pw_below_drewN | apply below_drew1) | exact HB.out))))).mono ?_); rintro e w8 ⟨rfl, hb⟩; have n0_ := Aside0.mk (below_step (by repeat (first | (with_reducible first | exact HB.out | apply below_alloc | apply pw_below_drewN | apply below_drew1) | exact HB.out)) hb); clear HB; have HB := n0_; clear n0_; (try clear hb); (try clear hb2); (try clear hk); (try clear hi); (try simp only [errW_none, errW_some]))); try go_wp2_with (first | (go_at_call 15; (with_reducible refine (half_Name.calls a0 a1 x22_1 t228 t229 _ A6.out (Sent.sub (show ∀ c, c ∈ half_Name.L → c ∈ half_Parse.L by decide) (Sent.below HS.out (by repeat (first | (with_reducible first | exact HB.out | apply below_alloc | apply pw_below_drewN | apply below_drew1) | exact HB.out))))).mono ?_); rintro e w8 ⟨rfl, hb⟩; have n0_ := Aside0.mk (below_step (by repeat (first | (with_reducible first | exact HB.out | apply below_alloc | apply pw_below_drewN | apply below_drew1) | exact HB.out)) hb); clear HB; have HB := n0_; clear n0_; (try clear hb); (try clear hb2); (try clear hk); (try clear hi); (try simp only [errW_none, errW_some]))))
            go_ret2
            exact ⟨by first | rfl | (simp [errW_none, errW_some] <;> rfl) | (simp [*, errW_none, errW_some] <;> rfl), by repeat (first | (with_reducible first | exact HB.out | apply below_alloc | apply pw_below_drewN | apply below_drew1) | exact HB.out)⟩
          · rw [if_neg c7] at H
            have c7b0 : (t228.toList == a2.toList) = false := beq_eq_false_iff_ne.mpr c7
            have c7b1 : (t228.toList != a2.toList) = true := bne_iff_ne.mpr c7
            have H' := Aside0.mk H
            clear H
            go_wp2_with (first | (go_at_call 15; (with_reducible refine (half_Name.calls a0 a1 x22_1 t228 t229 _ A6.out (Sent.sub (show ∀ c, c ∈ half_Name.L → c ∈ half_Parse.L by decide) (Sent.below HS.out (by repeat (first | (with_reducible first | exact HB.out | apply below_alloc | apply pw_below_drewN | apply below_drew1) | exact HB.out))))).mono ?_); rintro e w9 ⟨rfl, hb⟩; have n0_ := Aside0.mk (below_step (by repeat (first | (with_reducible first | exact HB.out | apply below_alloc | apply pw_below_drewN | apply below_drew1) | exact HB.out)) hb); clear HB; have HB := n0_; clear n0_; (try clear hb); (try clear hb2); (try clear hk); (try clear hi); (try simp only [errW_none, errW_some])))
            repeat (go_quiet (first | (go_at_call 15; (with_reducible refine (half_Name.calls a0 a1 x22_1 t228 t229 _ A6.out (Sent.sub (show ∀ c, c ∈ half_Name.L → c ∈ half_Parse.L by decide) (Sent.below HS.out (by repeat (first | (with_reducible first | exact HB.out | apply below_alloc | apply pw_below_drewN | apply below_drew1) | exact HB.out))))).mono ?_); rintro e w9 ⟨rfl, hb⟩; have n0_ := Aside0.mk (below_step (by repeat (first | (with_reducible first | exact HB.out | apply below_alloc | apply pw_below_drewN | apply below_drew1) | exact HB.out)) hb); clear HB; have HB := n0_; clear n0_; (try clear hb); (try clear hb2); (try clear hk); (try clear hi); (try simp only [errW_none, errW_some]))); try go_wp2_with (first | (go_at_call 15; (with_reducible refine (half_Name.calls a0 a1 x22_1 t228 t229 _ A6.out (Sent.sub (show ∀ c, c ∈ half_Name.L → c ∈ half_Parse.L by decide) (Sent.below HS.out (by repeat (first | (with_reducible first | exact HB.out | apply below_alloc | apply pw_below_drewN | apply below_drew1) | exact HB.out))))).mono ?_); rintro e w9 ⟨rfl, hb⟩; have n0_ := Aside0.mk (below_step (by repeat (first | (with_reducible first | exact HB.out | apply below_alloc | apply pw_below_drewN | apply below_drew1) | exact HB.out)) hb); clear HB; have HB := n0_; clear n0_; (try clear hb); (try clear hb2); (try clear hk); (try clear hi); (try simp only [errW_none, errW_some]))))
            go_roundg k1
            case measure => have := HK1.out; omega
            case rel => exact ⟨(wrap64 (x22_1 + 1)), (by first | rfl | (simp; done) | (simp [*]; done)), H', ⟨by have := HK1.out; omega⟩, ⟨by repeat (first | (with_reducible first | exact HB.out | apply below_alloc | apply pw_below_drewN | apply below_drew1) | exact HB.out)⟩⟩
        · rw [if_neg c5] at H
          have c5b0 : decide (x22_1 < (wrap64 (2 * (wrap64 (a0 + a1))))) = false := decide_eq_false c5
          clear c5
          simp only [Option.some.injEq, Prod.mk.injEq] at H
          obtain ⟨rfl, rfl⟩ := H
          go_wp2
          repeat (go_quiet (fail); try go_wp2)
          go_ret2
          exact ⟨by first | rfl | (simp [errW_none, errW_some] <;> rfl) | (simp [*, errW_none, errW_some] <;> rfl), by repeat (first | (with_reducible first | exact HB.out | apply below_alloc | apply pw_below_drewN | apply below_drew1) | exact HB.out)⟩
  · have H1 : (some (0, some q227)) = some (r1, r2) := by rw [if_neg (show ¬ (some q227).isNone = true by simp)] at H; exact H
    clear H
    have H := H1
    clear H1
    try simp only [errW_none, errW_some]
    simp only [Option.some.injEq, Prod.mk.injEq] at H
    obtain ⟨rfl, rfl⟩ := H
    go_enter Tryd.func16, Tryd.ntmps16
    go_wp2_with (first | (go_at_call 36; (with_reducible refine (base_Check.calls a0 a1 (some q227) _ A4.out (Sent.sub (show ∀ c, c ∈ base_Check.L → c ∈ half_Parse.L by decide) (Sent.below HS.out (by repeat (first | (with_reducible first | exact HB.out | apply below_alloc | apply pw_below_drewN | apply below_drew1) | exact HB.out))))).mono ?_); rintro e w' ⟨rfl, ⟨nd, rfl⟩⟩; (try simp only [errW_none, errW_some]); (try first | exact ⟨rfl, _, World.drewN_drewN _ _ _⟩ | exact ⟨rfl, _, Eq.trans (World.drewN_drewN _ _ _) (congrArg (World.drewN _) (Nat.add_assoc _ _ _))⟩)))
    repeat (go_quiet (first | (go_at_call 36; (with_reducible refine (base_Check.calls a0 a1 (some q227) _ A4.out (Sent.sub (show ∀ c, c ∈ base_Check.L → c ∈ half_Parse.L by decide) (Sent.below HS.out (by repeat (first | (with_reducible first | exact HB.out | apply below_alloc | apply pw_below_drewN | apply below_drew1) | exact HB.out))))).mono ?_); rintro e w' ⟨rfl, ⟨nd, rfl⟩⟩; (try simp only [errW_none, errW_some]); (try first | exact ⟨rfl, _, World.drewN_drewN _ _ _⟩ | exact ⟨rfl, _, Eq.trans (World.drewN_drewN _ _ _) (congrArg (World.drewN _) (Nat.add_assoc _ _ _))⟩))); try go_wp2_with (first | (go_at_call 36; (with_reducible refine (base_Check.calls a0 a1 (some q227) _ A4.out (Sent.sub (show ∀ c, c ∈ base_Check.L → c ∈ half_Parse.L by decide) (Sent.below HS.out (by repeat (first | (with_reducible first | exact HB.out | apply below_alloc | apply pw_below_drewN | apply below_drew1) | exact HB.out))))).mono ?_); rintro e w' ⟨rfl, ⟨nd, rfl⟩⟩; (try simp only [errW_none, errW_some]); (try first | exact ⟨rfl, _, World.drewN_drewN _ _ _⟩ | exact ⟨rfl, _, Eq.trans (World.drewN_drewN _ _ _) (congrArg (World.drewN _) (Nat.add_assoc _ _ _))⟩))))
    go_ret2
    exact ⟨by first | rfl | (simp [errW_none, errW_some] <;> rfl) | (simp [*, errW_none, errW_some] <;> rfl), by repeat (first | (with_reducible first | exact HB.out | apply below_alloc | apply pw_below_drewN | apply below_drew1) | exact HB.out)⟩

end Go.Proofs.YtnnondbimdmcaaaDoor.F

namespace Go.Proofs.YtnnondbimdmcaaaDoor.F
open Go.RowKit Go.Proofs.YtnnondbimdmcaaaDoorW.PrintWords Go.Proofs.YtnnondbimdmcaaaDoorW.PrintLast Go.Proofs.YtnnondbimdmcaaaDoorW.PrintMore
attribute [local go_sem] max2_int min2_int max_two min_two max_three min_three max_four min_four   -- for this text's walks alone
set_option linter.unusedVariables false
set_option linter.unusedSimpArgs false
set_option linter.unusedSectionVars false
open Go.Proofs.YtnnondbimdmcaaaDoor
variable [Errs]

/-! ### tesseraref05_Number: function 37 -/
def tesseraref05_Number.l0 : Nat → Int → ByteArray → Option (ByteArray)
  | 0, _, _ => none
  | k + 1, x0, x3 => if x3.toList = ([] : List UInt8) then ((some (([(wrap64 (48 + (Int.tmod x0 10))) % 256] : List Int) : List Int)).bind fun y230 => (if (strOfNums y230).size + x3.size ≤ 9223372036854775807 then (tesseraref05_Number.l0 k (wrap64 (Int.tdiv x0 10)) ((strOfNums y230) ++ x3)) else (none))) else (if x0 > 0 then ((some (([(wrap64 (48 + (Int.tmod x0 10))) % 256] : List Int) : List Int)).bind fun y233 => (if (strOfNums y233).size + x3.size ≤ 9223372036854775807 then (tesseraref05_Number.l0 k (wrap64 (Int.tdiv x0 10)) ((strOfNums y233) ++ x3)) else (none))) else (some x3))
def tesseraref05_Number.f (k : Nat) (a0 : Int) : Option (ByteArray) := tesseraref05_Number.l0 k a0 (⟨#[]⟩ : ByteArray)
theorem tesseraref05_Number.mono_l : ∀ k, (∀ y0 y1, LeO (tesseraref05_Number.l0 k y0 y1) (tesseraref05_Number.l0 (k + 1) y0 y1))
  | 0 => fun _ _ r h => by simp [tesseraref05_Number.l0] at h
  | k + 1 => by
    have ih0 := tesseraref05_Number.mono_l k
    · intro y0 y1
      unfold tesseraref05_Number.l0
      repeat' first
      | (with_reducible exact ih0 _ _)
      | (with_reducible exact LeO.refl _)
      | (with_reducible exact LeO.none _)
      | (with_reducible refine LeO.ite ?_ ?_)
      | (with_reducible refine LeO.bind ?_ (fun _ => ?_))
      | exact ih0 _ _
      | exact LeO.none _
      | refine LeO.ite ?_ ?_
      | refine LeO.bind ?_ (fun _ => ?_)
theorem tesseraref05_Number.mono : ∀ a0 k, LeO (tesseraref05_Number.f k a0) (tesseraref05_Number.f (k + 1) a0) := by
  intro a0 k
  have ih0 := tesseraref05_Number.mono_l k
  unfold tesseraref05_Number.f
  repeat' first
      | (with_reducible exact ih0 _ _)
      | (with_reducible exact LeO.refl _)
      | (with_reducible exact LeO.none _)
      | (with_reducible refine LeO.ite ?_ ?_)
      | (with_reducible refine LeO.bind ?_ (fun _ => ?_))
      | exact ih0 _ _
      | exact LeO.none _
      | refine LeO.ite ?_ ?_
      | refine LeO.bind ?_ (fun _ => ?_)
set_option maxHeartbeats 8000000 in
set_option maxRecDepth 100000 in
theorem tesseraref05_Number.calls (k : Nat) (a0 : Int) (r : ByteArray) (w : World) (h : tesseraref05_Number.f k a0 = some r) :
    Calls Tryd.prog 37 #[.int .i64 a0] w fun e w' => e = .returned (.string r) ∧ Below w.heap.size w w' := by
  have HB := Aside0.mk (Below.refl w.heap.size w)
  have H : (tesseraref05_Number.l0 k a0 (⟨#[]⟩ : ByteArray)) = some r := h
  clear h
  have H' := Aside0.mk H
  clear H
  go_enter Tryd.func37, Tryd.ntmps37
  go_wp2
  go_loopg [0, 3] k (fun kq v0 v3 w' => ∃ (x0_1 : Int) (x3_1 : ByteArray), v0 = .int .i64 x0_1 ∧ v3 = .string x3_1 ∧ Aside0 (tesseraref05_Number.l0 kq x0_1 x3_1 = some r) ∧ Aside0 (kq ≤ k) ∧ Aside0 (Below w.heap.size w w'))
  case atStart => exact ⟨(a0), ((⟨#[]⟩ : ByteArray)), (by first | rfl | (simp; done) | (simp [*]; done)), (by first | rfl | (simp; done) | (simp [*]; done)), H', ⟨Nat.le_refl _⟩, ⟨by repeat (first | (with_reducible first | exact HB.out | apply below_alloc | apply pw_below_drewN | apply below_drew1) | exact HB.out)⟩⟩
  case round =>
    clear H'
    obtain ⟨x0_1, x3_1, rfl, rfl, HA, HK1, HB⟩ := hrel
    cases gk with
    | zero => exact absurd HA.out (by simp [tesseraref05_Number.l0])
    | succ k1 =>
      have H := HA.out
      clear HA
      first | rw [tesseraref05_Number.l0] at H | simp only [tesseraref05_Number.l0] at H
      by_cases c2 : x3_1.toList = ([] : List UInt8)
      · rw [if_pos c2] at H
        have c2b0 : (x3_1.toList == ([] : List UInt8)) = true := beq_iff_eq.mpr c2
        have c2b1 : (x3_1.toList != ([] : List UInt8)) = false := bne_eq_false_iff_eq.mpr c2
        clear c2
        obtain ⟨y230, hy230⟩ : ∃ y_ : List Int, y_ = (([(wrap64 (48 + (Int.tmod x0_1 10))) % 256] : List Int)) := ⟨_, rfl⟩
        replace H : (if (strOfNums y230).size + x3_1.size ≤ 9223372036854775807 then (tesseraref05_Number.l0 k1 (wrap64 (Int.tdiv x0_1 10)) ((strOfNums y230) ++ x3_1)) else (none)) = some r := by first | (rw [hy230]; with_reducible exact H) | (have H2_ := (Option.bind_some _ _).symm.trans H; rw [hy230]; with_reducible exact H2_) | (have H2_ := (Option.bind_some _ _).symm.trans H; with_reducible exact H2_) | with_reducible exact H | (rw [hy230]; exact H) | exact H
        have Ny230 := Aside0.mk hy230
        clear hy230
        by_cases c3 : (strOfNums y230).size + x3_1.size ≤ 9223372036854775807
        · rw [if_pos c3] at H
          have c3b0 := eq_true c3
          have c3b1 : decide ((strOfNums y230).size + x3_1.size ≤ 9223372036854775807) = true := decide_eq_true c3
          try have c3b2 : (9223372036854775807 < (strOfNums y230).size + x3_1.size) = False := eq_false (Nat.not_lt.2 c3)
          have H' := Aside0.mk H
          clear H
          go_wp2_with (first | ((with_reducible refine gate_dst (N := 14) rfl ?_); refine Kd.R_lit (Kd.int .u8) _ 5 ?hg (N := 14) ?hd (xs := ([(wrap64 (48 + (Int.tmod x0_1 10))) % 256] : List Int)) (inner := [.int .u8 ((wrap64 (48 + (Int.tmod x0_1 10))) % 256)]) (ok := fun _ => True) (okp := fun _ => True) ?hr ?hp (fun _ hk => hk) trivial (Below.refl _ _) (Nat.le_refl _) (by simp) ?_; (case hd => rfl); (case hg => rfl); (case hr => first | (go_simp; done) | (go_simp; rfl)); (case hp => exact (Reps.one (show Kd.M (Kd.int .u8) _ _ _ ((wrap64 (48 + (Int.tmod x0_1 10))) % 256) [.int .u8 ((wrap64 (48 + (Int.tmod x0_1 10))) % 256)] from rfl) (Reps.none _ _))); intro v231 w4 ho5 hb hg_ hnew_; clear hg_ hnew_; (first | rw [← Ny230.out] at ho5 | (simp only [Int.reduceToNat] at ho5; rw [← Ny230.out] at ho5)); have n0_ := Aside0.mk (Kd.R_lower ho5 (below_size (by repeat (first | (with_reducible first | exact HB.out | apply below_alloc | apply pw_below_drewN | apply below_drew1) | exact HB.out)))); have n1_ := Aside0.mk (below_step (by repeat (first | (with_reducible first | exact HB.out | apply below_alloc | apply pw_below_drewN | apply below_drew1) | exact HB.out)) hb); clear HB; have HO232 := n0_; have HB := n1_; clear n0_ n1_; clear hb ho5; have hcv6 := own_string (P := Tryd.prog) Tryd.underlying39 Tryd.underlying5 Tryd.underlying9 (Kd.own_of_R HO232.out)))
          go_roundg k1
          case measure => have := HK1.out; omega
          case rel => exact ⟨(wrap64 (Int.tdiv x0_1 10)), ((strOfNums y230) ++ x3_1), (by first | rfl | (simp; done) | (simp [*]; done)), (by first | rfl | (simp; done) | (simp [*]; done)), H', ⟨by have := HK1.out; omega⟩, ⟨by repeat (first | (with_reducible first | exact HB.out | apply below_alloc | apply pw_below_drewN | apply below_drew1) | exact HB.out)⟩⟩
        · rw [if_neg c3] at H
          exact absurd H (by simp)
      · rw [if_neg c2] at H
        have c2b0 : (x3_1.toList == ([] : List UInt8)) = false := beq_eq_false_iff_ne.mpr c2
        have c2b1 : (x3_1.toList != ([] : List UInt8)) = true := bne_iff_ne.mpr c2
        by_cases c7 : x0_1 > 0
        · rw [if_pos c7] at H
          have c7b0 : decide (0 < x0_1) = true := decide_eq_true c7
          clear c7
          obtain ⟨y233, hy233⟩ : ∃ y_ : List Int, y_ = (([(wrap64 (48 + (Int.tmod x0_1 10))) % 256] : List Int)) := ⟨_, rfl⟩
          replace H : (if (strOfNums y233).size + x3_1.size ≤ 9223372036854775807 then (tesseraref05_Number.l0 k1 (wrap64 (Int.tdiv x0_1 10)) ((strOfNums y233) ++ x3_1)) else (none)) = some r := by first | (rw [hy233]; with_reducible exact H) | (have H2_ := (Option.bind_some _ _).symm.trans H; rw [hy233]; with_reducible exact H2_) | (have H2_ := (Option.bind_some _ _).symm.trans H; with_reducible exact H2_) | with_reducible exact H | (rw [hy233]; exact H) | exact H
          have Ny233 := Aside0.mk hy233
          clear hy233
          by_cases c8 : (strOfNums y233).size + x3_1.size ≤ 9223372036854775807
          · rw [if_pos c8] at H
            have c8b0 := eq_true c8
            have c8b1 : decide ((strOfNums y233).size + x3_1.size ≤ 9223372036854775807) = true := decide_eq_true c8
            try have c8b2 : (9223372036854775807 < (strOfNums y233).size + x3_1.size) = False := eq_false (Nat.not_lt.2 c8)
            have H' := Aside0.mk H
            clear H
            go_wp2_with (first | ((with_reducible refine gate_dst (N := 14) rfl ?_); refine Kd.R_lit (Kd.int .u8) _ 5 ?hg (N := 14) ?hd (xs := ([(wrap64 (48 + (Int.tmod x0_1 10))) % 256] : List Int)) (inner := [.int .u8 ((wrap64 (48 + (Int.tmod x0_1 10))) % 256)]) (ok := fun _ => True) (okp := fun _ => True) ?hr ?hp (fun _ hk => hk) trivial (Below.refl _ _) (Nat.le_refl _) (by simp) ?_; (case hd => rfl); (case hg => rfl); (case hr => first | (go_simp; done) | (go_simp; rfl)); (case hp => exact (Reps.one (show Kd.M (Kd.int .u8) _ _ _ ((wrap64 (48 + (Int.tmod x0_1 10))) % 256) [.int .u8 ((wrap64 (48 + (Int.tmod x0_1 10))) % 256)] from rfl) (Reps.none _ _))); intro v234 w9 ho10 hb hg_ hnew_; clear hg_ hnew_; (first | rw [← Ny233.out] at ho10 | (simp only [Int.reduceToNat] at ho10; rw [← Ny233.out] at ho10)); have n0_ := Aside0.mk (Kd.R_lower ho10 (below_size (by repeat (first | (with_reducible first | exact HB.out | apply below_alloc | apply pw_below_drewN | apply below_drew1) | exact HB.out)))); have n1_ := Aside0.mk (below_step (by repeat (first | (with_reducible first | exact HB.out | apply below_alloc | apply pw_below_drewN | apply below_drew1) | exact HB.out)) hb); clear HB; have HO235 := n0_; have HB := n1_; clear n0_ n1_; clear hb ho10; have hcv11 := own_string (P := Tryd.prog) Tryd.underlying39 Tryd.underlying5 Tryd.underlying9 (Kd.own_of_R HO235.out)))
            go_roundg k1
            case measure => have := HK1.out; omega
            case rel => exact ⟨(wrap64 (Int.tdiv x0_1 10)), ((strOfNums y233) ++ x3_1), (by first | rfl | (simp; done) | (simp [*]; done)), (by first | rfl | (simp; done) | (simp [*]; done)), H', ⟨by have := HK1.out; omega⟩, ⟨by repeat (first | (with_reducible first | exact HB.out | apply below_alloc | apply pw_below_drewN | apply below_drew1) | exact HB.out)⟩⟩
          · rw [if_neg c8] at H
            exact absurd H (by simp)
        · rw [if_neg c7] at H
          have c7b0 : decide (0 < x0_1) = false := decide_eq_false c7
          clear c7
          obtain rfl := Option.some.inj H
          go_wp2
          go_ret
          exact ⟨by first | rfl | (simp [errW_none, errW_some] <;> rfl) | (simp [*, errW_none, errW_some] <;> rfl), by repeat (first | (with_reducible first | exact HB.out | apply below_alloc | apply pw_below_drewN | apply below_drew1) | exact HB.out)⟩

end Go.Proofs.YtnnondbimdmcaaaDoor.F

namespace Go.Proofs.YtnnondbimdmcaaaDoor.F
open Go.RowKit Go.Proofs.YtnnondbimdmcaaaDoorW.PrintWords Go.Proofs.YtnnondbimdmcaaaDoorW.PrintLast Go.Proofs.YtnnondbimdmcaaaDoorW.PrintMore
attribute [local go_sem] max2_int min2_int max_two min_two max_three min_three max_four min_four   -- for this text's walks alone
set_option linter.unusedVariables false
set_option linter.unusedSimpArgs false
set_option linter.unusedSectionVars false
open Go.Proofs.YtnnondbimdmcaaaDoor
variable [Errs]

/-! ### tesseraref05_Name: function 17 -/
def tesseraref05_Name.f (k : Nat) (a0 : Int) (a1 : Int) : Option (ByteArray) := (tesseraref05_Number.f k (wrap64 (Int.tdiv a1 2))).bind fun t236 => (if 1 + t236.size ≤ 9223372036854775807 then (if (wrap64 (Int.tdiv a1 2)) ≥ a0 then ((tesseraref05_Number.f k (wrap64 ((wrap64 (Int.tdiv a1 2)) - a0))).bind fun t237 => (if 1 + t237.size ≤ 9223372036854775807 then (if (Int.tmod a1 2) = 0 then (if 1 + t237.size + 1 ≤ 9223372036854775807 then (some (((⟨#[112]⟩ : ByteArray) ++ t237) ++ (⟨#[97]⟩ : ByteArray))) else (none)) else (if 1 + t237.size + 1 ≤ 9223372036854775807 then (some (((⟨#[112]⟩ : ByteArray) ++ t237) ++ (⟨#[98]⟩ : ByteArray))) else (none))) else (none))) else (if (Int.tmod a1 2) = 0 then (if 1 + t236.size + 1 ≤ 9223372036854775807 then (some (((⟨#[100]⟩ : ByteArray) ++ t236) ++ (⟨#[97]⟩ : ByteArray))) else (none)) else (if 1 + t236.size + 1 ≤ 9223372036854775807 then (some (((⟨#[100]⟩ : ByteArray) ++ t236) ++ (⟨#[98]⟩ : ByteArray))) else (none)))) else (none))
theorem tesseraref05_Name.mono : ∀ a0 a1 k, LeO (tesseraref05_Name.f k a0 a1) (tesseraref05_Name.f (k + 1) a0 a1) := by
  intro a0 a1 k
  unfold tesseraref05_Name.f
  repeat' first
      | (with_reducible exact tesseraref05_Number.mono _ _)
      | (with_reducible exact LeO.refl _)
      | (with_reducible exact LeO.none _)
      | (with_reducible refine LeO.ite ?_ ?_)
      | (with_reducible refine LeO.bind ?_ (fun _ => ?_))
      | exact tesseraref05_Number.mono _ _
      | exact LeO.none _
      | refine LeO.ite ?_ ?_
      | refine LeO.bind ?_ (fun _ => ?_)
set_option maxHeartbeats 8000000 in
set_option maxRecDepth 100000 in
theorem tesseraref05_Name.calls (k : Nat) (a0 : Int) (a1 : Int) (r : ByteArray) (w : World) (h : tesseraref05_Name.f k a0 a1 = some r) :
    Calls Tryd.prog 17 #[.int .i64 a0, .int .i64 a1] w fun e w' => e = .returned (.string r) ∧ Below w.heap.size w w' := by
  have HB := Aside0.mk (Below.refl w.heap.size w)
  have H : ((tesseraref05_Number.f k (wrap64 (Int.tdiv a1 2))).bind fun t236 => (if 1 + t236.size ≤ 9223372036854775807 then (if (wrap64 (Int.tdiv a1 2)) ≥ a0 then ((tesseraref05_Number.f k (wrap64 ((wrap64 (Int.tdiv a1 2)) - a0))).bind fun t237 => (if 1 + t237.size ≤ 9223372036854775807 then (if (Int.tmod a1 2) = 0 then (if 1 + t237.size + 1 ≤ 9223372036854775807 then (some (((⟨#[112]⟩ : ByteArray) ++ t237) ++ (⟨#[97]⟩ : ByteArray))) else (none)) else (if 1 + t237.size + 1 ≤ 9223372036854775807 then (some (((⟨#[112]⟩ : ByteArray) ++ t237) ++ (⟨#[98]⟩ : ByteArray))) else (none))) else (none))) else (if (Int.tmod a1 2) = 0 then (if 1 + t236.size + 1 ≤ 9223372036854775807 then (some (((⟨#[100]⟩ : ByteArray) ++ t236) ++ (⟨#[97]⟩ : ByteArray))) else (none)) else (if 1 + t236.size + 1 ≤ 9223372036854775807 then (some (((⟨#[100]⟩ : ByteArray) ++ t236) ++ (⟨#[98]⟩ : ByteArray))) else (none)))) else (none))) = some r := h
  clear h
  replace H := Option.bind_eq_some_iff.mp H
  obtain ⟨t236, A30, H⟩ := H
  replace H : (if 1 + t236.size ≤ 9223372036854775807 then (if (wrap64 (Int.tdiv a1 2)) ≥ a0 then ((tesseraref05_Number.f k (wrap64 ((wrap64 (Int.tdiv a1 2)) - a0))).bind fun t237 => (if 1 + t237.size ≤ 9223372036854775807 then (if (Int.tmod a1 2) = 0 then (if 1 + t237.size + 1 ≤ 9223372036854775807 then (some (((⟨#[112]⟩ : ByteArray) ++ t237) ++ (⟨#[97]⟩ : ByteArray))) else (none)) else (if 1 + t237.size + 1 ≤ 9223372036854775807 then (some (((⟨#[112]⟩ : ByteArray) ++ t237) ++ (⟨#[98]⟩ : ByteArray))) else (none))) else (none))) else (if (Int.tmod a1 2) = 0 then (if 1 + t236.size + 1 ≤ 9223372036854775807 then (some (((⟨#[100]⟩ : ByteArray) ++ t236) ++ (⟨#[97]⟩ : ByteArray))) else (none)) else (if 1 + t236.size + 1 ≤ 9223372036854775807 then (some (((⟨#[100]⟩ : ByteArray) ++ t236) ++ (⟨#[98]⟩ : ByteArray))) else (none)))) else (none)) = some r := H
  have A3 := Aside0.mk A30
  clear A30
  by_cases c4 : 1 + t236.size ≤ 9223372036854775807
  · rw [if_pos c4] at H
    have c4b0 := eq_true c4
    have c4b1 : decide (1 + t236.size ≤ 9223372036854775807) = true := decide_eq_true c4
    try have c4b2 : (9223372036854775807 < 1 + t236.size) = False := eq_false (Nat.not_lt.2 c4)
    by_cases c5 : (wrap64 (Int.tdiv a1 2)) ≥ a0
    · rw [if_pos c5] at H
      have c5b0 : decide (a0 ≤ (wrap64 (Int.tdiv a1 2))) = true := decide_eq_true c5
      clear c5
      replace H := Option.bind_eq_some_iff.mp H
      obtain ⟨t237, A60, H⟩ := H
      replace H : (if 1 + t237.size ≤ 9223372036854775807 then (if (Int.tmod a1 2) = 0 then (if 1 + t237.size + 1 ≤ 9223372036854775807 then (some (((⟨#[112]⟩ : ByteArray) ++ t237) ++ (⟨#[97]⟩ : ByteArray))) else (none)) else (if 1 + t237.size + 1 ≤ 9223372036854775807 then (some (((⟨#[112]⟩ : ByteArray) ++ t237) ++ (⟨#[98]⟩ : ByteArray))) else (none))) else (none)) = some r := H
      have A6 := Aside0.mk A60
      clear A60
      by_cases c7 : 1 + t237.size ≤ 9223372036854775807
      · rw [if_pos c7] at H
        have c7b0 := eq_true c7
        have c7b1 : decide (1 + t237.size ≤ 9223372036854775807) = true := decide_eq_true c7
        try have c7b2 : (9223372036854775807 < 1 + t237.size) = False := eq_false (Nat.not_lt.2 c7)
        by_cases c8 : (Int.tmod a1 2) = 0
        · rw [if_pos c8] at H
          have c8b0 : ((Int.tmod a1 2) == 0) = true := beq_iff_eq.mpr c8
          have c8b1 : ((Int.tmod a1 2) != 0) = false := bne_eq_false_iff_eq.mpr c8
          clear c8
          by_cases c9 : 1 + t237.size + 1 ≤ 9223372036854775807
          · rw [if_pos c9] at H
            have c9b0 := eq_true c9
            have c9b1 : decide (1 + t237.size + 1 ≤ 9223372036854775807) = true := decide_eq_true c9
            try have c9b2 : (9223372036854775807 < 1 + t237.size + 1) = False := eq_false (Nat.not_lt.2 c9)
            obtain rfl := Option.some.inj H
            go_enter Tryd.func17, Tryd.ntmps17
            go_wp2_with (first | ((with_reducible refine gate_callee (f := 37) rfl ?_); refine goesL_ (some 8) rfl rfl Tryd.func37 (by kernel_rfl) rfl #[.int .i64 (wrap64 (Int.tdiv a1 2))] rfl (by (try simp only [List.map_toArray, List.map_cons, List.map_nil]); first | done | rfl | (simp only [List.length_drop, List.length_take]; rfl)) ?_; (with_reducible refine (tesseraref05_Number.calls k (wrap64 (Int.tdiv a1 2)) t236 _ A3.out).mono ?_); rintro e w10 ⟨rfl, hb⟩; refine ⟨_, rfl, ?_⟩; have n0_ := Aside0.mk (below_step (by repeat (first | (with_reducible first | exact HB.out | apply below_alloc | apply pw_below_drewN | apply below_drew1) | exact HB.out)) hb); clear HB; have HB := n0_; clear n0_; (try clear hb); (try clear hb2); (try clear hk); (try clear hi)) | ((with_reducible refine gate_callee (f := 37) rfl ?_); refine goesL_ (some 18) rfl rfl Tryd.func37 (by kernel_rfl) rfl #[.int .i64 (wrap64 ((wrap64 (Int.tdiv a1 2)) - a0))] rfl (by (try simp only [List.map_toArray, List.map_cons, List.map_nil]); first | done | rfl | (simp only [List.length_drop, List.length_take]; rfl)) ?_; (with_reducible refine (tesseraref05_Number.calls k (wrap64 ((wrap64 (Int.tdiv a1 2)) - a0)) t237 _ A6.out).mono ?_); rintro e w11 ⟨rfl, hb⟩; refine ⟨_, rfl, ?_⟩; have n0_ := Aside0.mk (below_step (by repeat (first | (with_reducible first | exact HB.out | apply below_alloc | apply pw_below_drewN | apply below_drew1) | exact HB.out)) hb); clear HB; have HB := n0_; clear n0_; (try clear hb); (try clear hb2); (try clear hk); (try clear hi)))
            go_ret
            exact ⟨by first | rfl | (simp [errW_none, errW_some] <;> rfl) | (simp [*, errW_none, errW_some] <;> rfl), by repeat (first | (with_reducible first | exact HB.out | apply below_alloc | apply pw_below_drewN | apply below_drew1) | exact HB.out)⟩
          · rw [if_neg c9] at H
            exact absurd H (by simp)
        · rw [if_neg c8] at H
          have c8b0 : ((Int.tmod a1 2) == 0) = false := beq_eq_false_iff_ne.mpr c8
          have c8b1 : ((Int.tmod a1 2) != 0) = true := bne_iff_ne.mpr c8
          by_cases c12 : 1 + t237.size + 1 ≤ 9223372036854775807
          · rw [if_pos c12] at H
            have c12b0 := eq_true c12
            have c12b1 : decide (1 + t237.size + 1 ≤ 9223372036854775807) = true := decide_eq_true c12
            try have c12b2 : (9223372036854775807 < 1 + t237.size + 1) = False := eq_false (Nat.not_lt.2 c12)
            obtain rfl := Option.some.inj H
            go_enter Tryd.func17, Tryd.ntmps17
            go_wp2_with (first | ((with_reducible refine gate_callee (f := 37) rfl ?_); refine goesL_ (some 8) rfl rfl Tryd.func37 (by kernel_rfl) rfl #[.int .i64 (wrap64 (Int.tdiv a1 2))] rfl (by (try simp only [List.map_toArray, List.map_cons, List.map_nil]); first | done | rfl | (simp only [List.length_drop, List.length_take]; rfl)) ?_; (with_reducible refine (tesseraref05_Number.calls k (wrap64 (Int.tdiv a1 2)) t236 _ A3.out).mono ?_); rintro e w13 ⟨rfl, hb⟩; refine ⟨_, rfl, ?_⟩; have n0_ := Aside0.mk (below_step (by repeat (first | (with_reducible first | exact HB.out | apply below_alloc | apply pw_below_drewN | apply below_drew1) | exact HB.out)) hb); clear HB; have HB := n0_; clear n0_; (try clear hb); (try clear hb2); (try clear hk); (try clear hi)) | ((with_reducible refine gate_callee (f := 37) rfl ?_); refine goesL_ (some 18) rfl rfl Tryd.func37 (by kernel_rfl) rfl #[.int .i64 (wrap64 ((wrap64 (Int.tdiv a1 2)) - a0))] rfl (by (try simp only [List.map_toArray, List.map_cons, List.map_nil]); first | done | rfl | (simp only [List.length_drop, List.length_take]; rfl)) ?_; (with_reducible refine (tesseraref05_Number.calls k (wrap64 ((wrap64 (Int.tdiv a1 2)) - a0)) t237 _ A6.out).mono ?_); rintro e w14 ⟨rfl, hb⟩; refine ⟨_, rfl, ?_⟩; have n0_ := Aside0.mk (below_step (by repeat (first | (with_reducible first | exact HB.out | apply below_alloc | apply pw_below_drewN | apply below_drew1) | exact HB.out)) hb); clear HB; have HB := n0_; clear n0_; (try clear hb); (try clear hb2); (try clear hk); (try clear hi)))
            go_ret
            exact ⟨by first | rfl | (simp [errW_none, errW_some] <;> rfl) | (simp [*, errW_none, errW_some] <;> rfl), by repeat (first | (with_reducible first | exact HB.out | apply below_alloc | apply pw_below_drewN | apply below_drew1) | exact HB.out)⟩
          · rw [if_neg c12] at H
            exact absurd H (by simp)
      · rw [if_neg c7] at H
        exact absurd H (by simp)
    · rw [if_neg c5] at H
      have c5b0 : decide (a0 ≤ (wrap64 (Int.tdiv a1 2))) = false := decide_eq_false c5
      clear c5
      by_cases c15 : (Int.tmod a1 2) = 0
      · rw [if_pos c15] at H
        have c15b0 : ((Int.tmod a1 2) == 0) = true := beq_iff_eq.mpr c15
        have c15b1 : ((Int.tmod a1 2) != 0) = false := bne_eq_false_iff_eq.mpr c15
        clear c15
        by_cases c16 : 1 + t236.size + 1 ≤ 9223372036854775807
        · rw [if_pos c16] at H
          have c16b0 := eq_true c16
          have c16b1 : decide (1 + t236.size + 1 ≤ 9223372036854775807) = true := decide_eq_true c16
          try have c16b2 : (9223372036854775807 < 1 + t236.size + 1) = False := eq_false (Nat.not_lt.2 c16)
          obtain rfl := Option.some.inj H
          go_enter Tryd.func17, Tryd.ntmps17
          go_wp2_with (first | ((with_reducible refine gate_callee (f := 37) rfl ?_); refine goesL_ (some 8) rfl rfl Tryd.func37 (by kernel_rfl) rfl #[.int .i64 (wrap64 (Int.tdiv a1 2))] rfl (by (try simp only [List.map_toArray, List.map_cons, List.map_nil]); first | done | rfl | (simp only [List.length_drop, List.length_take]; rfl)) ?_; (with_reducible refine (tesseraref05_Number.calls k (wrap64 (Int.tdiv a1 2)) t236 _ A3.out).mono ?_); rintro e w17 ⟨rfl, hb⟩; refine ⟨_, rfl, ?_⟩; have n0_ := Aside0.mk (below_step (by repeat (first | (with_reducible first | exact HB.out | apply below_alloc | apply pw_below_drewN | apply below_drew1) | exact HB.out)) hb); clear HB; have HB := n0_; clear n0_; (try clear hb); (try clear hb2); (try clear hk); (try clear hi)))
          go_ret
          exact ⟨by first | rfl | (simp [errW_none, errW_some] <;> rfl) | (simp [*, errW_none, errW_some] <;> rfl), by repeat (first | (with_reducible first | exact HB.out | apply below_alloc | apply pw_below_drewN | apply below_drew1) | exact HB.out)⟩
        · rw [if_neg c16] at H
          exact absurd H (by simp)
      · rw [if_neg c15] at H
        have c15b0 : ((Int.tmod a1 2) == 0) = false := beq_eq_false_iff_ne.mpr c15
        have c15b1 : ((Int.tmod a1 2) != 0) = true := bne_iff_ne.mpr c15
        by_cases c18 : 1 + t236.size + 1 ≤ 9223372036854775807
        · rw [if_pos c18] at H
          have c18b0 := eq_true c18
          have c18b1 : decide (1 + t236.size + 1 ≤ 9223372036854775807) = true := decide_eq_true c18
          try have c18b2 : (9223372036854775807 < 1 + t236.size + 1) = False := eq_false (Nat.not_lt.2 c18)
          obtain rfl := Option.some.inj H
          go_enter Tryd.func17, Tryd.ntmps17
          go_wp2_with (first | ((with_reducible refine gate_callee (f := 37) rfl ?_); refine goesL_ (some 8) rfl rfl Tryd.func37 (by kernel_rfl) rfl #[.int .i64 (wrap64 (Int.tdiv a1 2))] rfl (by (try simp only [List.map_toArray, List.map_cons, List.map_nil]); first | done | rfl | (simp only [List.length_drop, List.length_take]; rfl)) ?_; (with_reducible refine (tesseraref05_Number.calls k (wrap64 (Int.tdiv a1 2)) t236 _ A3.out).mono ?_); rintro e w19 ⟨rfl, hb⟩; refine ⟨_, rfl, ?_⟩; have n0_ := Aside0.mk (below_step (by repeat (first | (with_reducible first | exact HB.out | apply below_alloc | apply pw_below_drewN | apply below_drew1) | exact HB.out)) hb); clear HB; have HB := n0_; clear n0_; (try clear hb); (try clear hb2); (try clear hk); (try clear hi)))
          go_ret
          exact ⟨by first | rfl | (simp [errW_none, errW_some] <;> rfl) | (simp [*, errW_none, errW_some] <;> rfl), by repeat (first | (with_reducible first | exact HB.out | apply below_alloc | apply pw_below_drewN | apply below_drew1) | exact HB.out)⟩
        · rw [if_neg c18] at H
          exact absurd H (by simp)
  · rw [if_neg c4] at H
    exact absurd H (by simp)

end Go.Proofs.YtnnondbimdmcaaaDoor.F

namespace Go.Proofs.YtnnondbimdmcaaaDoor.Plain
open Go.RowKit Go.Proofs.YtnnondbimdmcaaaDoorW.PrintWords Go.Proofs.YtnnondbimdmcaaaDoorW.PrintLast Go.Proofs.YtnnondbimdmcaaaDoor.F
set_option linter.unusedVariables false
abbrev nameErrs : Errs := ⟨fun _ => ⟨0, 0, none⟩⟩
attribute [local instance] nameErrs

def nm (a b h : Nat) : ByteArray := ((half_Name.f a b h).map (·.1)).getD ⟨#[]⟩
def nmOk (a b : Nat) : Bool :=
  ((List.range (2 * (a + b))).all fun h => decide (half_Name.f (a : Int) (b : Int) (h : Int) = some (nm a b h, none)) && decide (tesseraref05_Name.f 20 (a : Int) (h : Int) = some (nm a b h))) &&
  decide (((List.range (2 * (a + b))).map fun h => (nm a b h).toList).Nodup)
def legalB (a b : Nat) : Bool := decide (1 ≤ a) && decide (2 ≤ b) && decide (a + b ≤ 16)
theorem nm_all : ((List.range 17).all fun a => (List.range 17).all fun b => !(legalB a b) || nmOk a b) = true := by kernel_rfl

/-- Legal or not: what the two texts ask. -/
theorem legal_cases (a b : Int) :
    (∃ A B : Nat, a = A ∧ b = B ∧ legalB A B = true ∧ tesseraref04_Legal.f a b = some true ∧ base_Check.f a b = some none) ∨
    (tesseraref04_Legal.f a b = some false ∧ base_Check.f a b = some (some 1)) := by
  by_cases c : 1 ≤ a ∧ 2 ≤ b ∧ b ≤ 16 ∧ a + b ≤ 16
  · obtain ⟨c0, c1, c2, c3⟩ := c
    left
    refine ⟨a.toNat, b.toNat, by omega, by omega, ?_, ?_, ?_⟩
    · simp [legalB]; omega
    · unfold tesseraref04_Legal.f
      have : wrap64 (a + b) = a + b := by unfold wrap64; omega
      rw [if_pos (by omega), if_pos (by omega), if_pos (by omega), if_pos (by omega), this, decide_eq_true (by omega)]
    · unfold base_Check.f
      have : wrap64 (16 - a) = 16 - a := by unfold wrap64; omega
      rw [if_neg (by omega), if_neg (by omega), if_neg (by omega), this, if_neg (by omega)]
  · right
    constructor
    · unfold tesseraref04_Legal.f
      by_cases c0 : a ≥ 1
      · by_cases c1 : a ≤ 16
        · by_cases c2 : b ≥ 2
          · by_cases c3 : b ≤ 16
            · have : wrap64 (a + b) = a + b := by unfold wrap64; omega
              rw [if_pos c0, if_pos c1, if_pos c2, if_pos c3, this, decide_eq_false (by omega)]
            · rw [if_pos c0, if_pos c1, if_pos c2, if_neg c3]
          · rw [if_pos c0, if_pos c1, if_neg c2]
        · rw [if_pos c0, if_neg c1]
      · rw [if_neg c0]
    · unfold base_Check.f
      by_cases c0 : a < 1
      · rw [if_pos c0]
      · by_cases c1 : a ≥ 16
        · rw [if_neg c0, if_pos c1]
        · by_cases c2 : b < 2
          · rw [if_neg c0, if_neg c1, if_pos c2]
          · have : wrap64 (16 - a) = 16 - a := by unfold wrap64; omega
            rw [if_neg c0, if_neg c1, if_neg c2, this, if_pos (by omega)]

structure Names (a b : Nat) : Prop where
  la : 1 ≤ a
  lb : 2 ≤ b
  lab : a + b ≤ 16
  name : ∀ h, h < 2 * (a + b) → half_Name.f (a : Int) (b : Int) (h : Int) = some (nm a b h, none)
  ref : ∀ h, h < 2 * (a + b) → ∀ K, 20 ≤ K → tesseraref05_Name.f K (a : Int) (h : Int) = some (nm a b h)
  apart : ∀ g h, g < h → h < 2 * (a + b) → (nm a b g).toList ≠ (nm a b h).toList

theorem names_of (a b : Nat) (h : legalB a b = true) : Names a b := by
  have hl : (1 ≤ a ∧ 2 ≤ b) ∧ a + b ≤ 16 := by simpa [legalB] using h
  obtain ⟨⟨la, lb⟩, lab⟩ := hl
  have h1 := List.all_eq_true.1 nm_all a (List.mem_range.2 (by omega))
  have h2 := List.all_eq_true.1 h1 b (List.mem_range.2 (by omega))
  rw [h, Bool.not_true, Bool.false_or] at h2
  unfold nmOk at h2
  rw [Bool.and_eq_true] at h2
  obtain ⟨h3, h4⟩ := h2
  have h5 : ∀ g, g < 2 * (a + b) → _ := fun g hg => List.all_eq_true.1 h3 g (List.mem_range.2 hg)
  have hn := of_decide_eq_true h4
  refine ⟨la, lb, lab, fun g hg => ?_, fun g hg K hK => ?_, fun g h' hgh hh => ?_⟩
  · have := h5 g hg
    rw [Bool.and_eq_true] at this
    exact of_decide_eq_true this.1
  · have := h5 g hg
    rw [Bool.and_eq_true] at this
    exact at_rounds (g := fun K => tesseraref05_Name.f K (a : Int) (g : Int)) (tesseraref05_Name.mono _ _) hK (of_decide_eq_true this.2)
  · rw [List.nodup_iff_pairwise_ne, List.pairwise_iff_getElem] at hn
    have := hn g h' (by simp; omega) (by simp; omega) hgh
    simpa using this

/-- The first half from i on of a name, d halves looked at. -/
def fm (a b : Nat) (t : ByteArray) : Nat → Nat → Option Nat
  | _, 0 => none
  | i, d + 1 => if (nm a b i).toList = t.toList then some i else fm a b t (i + 1) d
def res : Option Nat → Int × Option Int
  | none => (0, some 4)
  | some h => ((h : Int), none)

theorem parse_from {a b : Nat} (N : Names a b) (t : ByteArray) : ∀ (d i K : Nat), i + d = 2 * (a + b) → d < K →
    half_Parse.l0 K (a : Int) (b : Int) t ((2 * (a + b) : Nat) : Int) (i : Int) = some (res (fm a b t i d)) := by
  intro d
  induction d with
  | zero =>
    intro i K hi hK
    obtain ⟨K, rfl⟩ : ∃ m, K = m + 1 := ⟨K - 1, by omega⟩
    rw [half_Parse.l0, if_neg (by omega)]; rfl
  | succ d ih =>
    intro i K hi hK
    obtain ⟨K, rfl⟩ : ∃ m, K = m + 1 := ⟨K - 1, by omega⟩
    have lab := N.lab
    rw [half_Parse.l0, if_pos (by omega), N.name i (by omega), Option.bind_some]
    have hw : wrap64 ((i : Int) + 1) = ((i + 1 : Nat) : Int) := by unfold wrap64; omega
    rw [fm]
    by_cases e : (nm a b i).toList = t.toList
    · rw [if_pos e, if_pos e]; rfl
    · rw [if_neg e, if_neg e, hw]
      exact ih (i + 1) K (by omega) (by omega)

theorem parse_all {a b : Nat} (N : Names a b) (hc : base_Check.f (a : Int) (b : Int) = some none) (t : ByteArray) (K : Nat) (hK : 2 * (a + b) < K) :
    half_Parse.f K (a : Int) (b : Int) t = some (res (fm a b t 0 (2 * (a + b)))) := by
  unfold half_Parse.f
  have lab := N.lab
  have hw : wrap64 (2 * wrap64 ((a : Int) + (b : Int))) = ((2 * (a + b) : Nat) : Int) := by unfold wrap64; omega
  rw [hc, Option.bind_some, if_pos (show (none : Option Int).isNone = true by rfl), hw]
  exact parse_from N t _ 0 K (by omega) hK

theorem fm_own {a b : Nat} (N : Names a b) (h : Nat) (hh : h < 2 * (a + b)) : ∀ (d i : Nat), i + d = 2 * (a + b) → i ≤ h → fm a b (nm a b h) i d = some h := by
  intro d
  induction d with
  | zero => intro i hi hle; omega
  | succ d ih =>
    intro i hi hle
    rw [fm]
    rcases Nat.lt_or_ge i h with hlt | hge
    · rw [if_neg (N.apart i h hlt hh)]
      exact ih (i + 1) (by omega) (by omega)
    · have e : i = h := by omega
      subst e
      rw [if_pos rfl]
end Go.Proofs.YtnnondbimdmcaaaDoor.Plain

namespace Go.Proofs.YtnnondbimdmcaaaDoor.halfAnyShards
open Go.ChangeShapes Go.WideShapes Go.ChangeAt Go.RowKit
open Go.ChangeMaps (open_string shut_string)
set_option linter.unusedVariables false
set_option linter.unusedSimpArgs false
theorem gErrParams : Tryd.prog.globalNamed "tessera/api.ErrParams" = some 0 := by kernel_rfl
theorem tErrParams : (Tryd.prog.globals[0]?).map (·.type) = some 27 := by kernel_rfl
theorem gErrShape : Tryd.prog.globalNamed "tessera/api.ErrShape" = some 3 := by kernel_rfl
theorem tErrShape : (Tryd.prog.globals[3]?).map (·.type) = some 27 := by kernel_rfl
theorem gErrHalf : Tryd.prog.globalNamed "tessera/api.ErrHalf" = some 1 := by kernel_rfl
theorem tErrHalf : (Tryd.prog.globals[1]?).map (·.type) = some 27 := by kernel_rfl
theorem gErrNumber : Tryd.prog.globalNamed "tessera/api.ErrNumber" = some 2 := by kernel_rfl
theorem tErrNumber : (Tryd.prog.globals[2]?).map (·.type) = some 27 := by kernel_rfl
theorem cellsE : Tryd.prog.cellsOf 127 = 1 := by kernel_rfl
theorem cellsT : Tryd.prog.cellsOf 9 = 1 := by kernel_rfl
theorem star : "*" ++ "errors.errorString" = "*errors.errorString" := by decide
theorem rowE (u : TypeId) (h : Tryd.prog.typeName? 3 u = some "*errors.errorString") : u = 111 :=
  typeName_ptr_named (nm := "errors.errorString") (by rw [star]; kernel_rfl) (by kernel_rfl) (by decide) u (by rw [star]; exact h)
set_option maxRecDepth 100000 in
/-- The listed sentinels, each at a place of its own. -/
theorem sentinels {W : World} (h : laidMet Tryd.prog [("tessera/api.ErrParams", Rows.laid_tessera_api_ErrParams), ("tessera/api.ErrShape", Rows.laid_tessera_api_ErrShape), ("tessera/api.ErrHalf", Rows.laid_tessera_api_ErrHalf), ("tessera/api.ErrNumber", Rows.laid_tessera_api_ErrNumber)] W) : ∃ E : Errs, @Sent E [1, 2, 4, 12] W := by
  obtain ⟨ps, ⟨g0, t0, cs0, f0, p0, q0, hg0, ht0, hv0, hd0, ⟨g1, t1, cs1, f1, p1, q1, hg1, ht1, hv1, hd1, ⟨g2, t2, cs2, f2, p2, q2, hg2, ht2, hv2, hd2, ⟨g3, t3, cs3, f3, p3, q3, hg3, ht3, hv3, hd3, hq, e3⟩, e2⟩, e1⟩, e0⟩, hnd, hrows⟩ := h
  obtain rfl := Option.some.inj (gErrParams.symm.trans hg0)
  obtain rfl := Option.some.inj (tErrParams.symm.trans ht0)
  obtain rfl := Option.some.inj (gErrShape.symm.trans hg1)
  obtain rfl := Option.some.inj (tErrShape.symm.trans ht1)
  obtain rfl := Option.some.inj (gErrHalf.symm.trans hg2)
  obtain rfl := Option.some.inj (tErrHalf.symm.trans ht2)
  obtain rfl := Option.some.inj (gErrNumber.symm.trans hg3)
  obtain rfl := Option.some.inj (tErrNumber.symm.trans ht3)
  have hq' : q3 = [] := hq
  subst hq'
  subst e3
  subst e2
  subst e1
  subst e0
  obtain ⟨l0⟩ := cs0
  have ok0 : ∀ u v, l0 = [.iface u v] → Value.okWide Tryd.prog W .any 0 u v := fun u v e => by
    subst e
    exact (hrows 0 0 (by simp [MemPlace.row])).2 u v (by simpa using World.var?_cell hg0 hv0 0)
  obtain ⟨a0, s0, rfl, hc0, hs0, hz0, rfl⟩ := errorString_of_trod Tryd.underlying27 rowE Tryd.underlying111 Tryd.underlying127 rfl rfl Tryd.underlying9 cellsE cellsT hd0 ok0
  have hcell0 : W.cell? ⟨0, 0, none⟩ = some (.iface 111 (.pointer (some a0))) := by simpa using World.var?_cell hg0 hv0 0
  have hblk0 := (hrows a0.block a0.off (by simp [MemPlace.row])).1
  obtain ⟨l1⟩ := cs1
  have ok1 : ∀ u v, l1 = [.iface u v] → Value.okWide Tryd.prog W .any 0 u v := fun u v e => by
    subst e
    exact (hrows 3 0 (by simp [MemPlace.row])).2 u v (by simpa using World.var?_cell hg1 hv1 0)
  obtain ⟨a1, s1, rfl, hc1, hs1, hz1, rfl⟩ := errorString_of_trod Tryd.underlying27 rowE Tryd.underlying111 Tryd.underlying127 rfl rfl Tryd.underlying9 cellsE cellsT hd1 ok1
  have hcell1 : W.cell? ⟨3, 0, none⟩ = some (.iface 111 (.pointer (some a1))) := by simpa using World.var?_cell hg1 hv1 0
  have hblk1 := (hrows a1.block a1.off (by simp [MemPlace.row])).1
  obtain ⟨l2⟩ := cs2
  have ok2 : ∀ u v, l2 = [.iface u v] → Value.okWide Tryd.prog W .any 0 u v := fun u v e => by
    subst e
    exact (hrows 1 0 (by simp [MemPlace.row])).2 u v (by simpa using World.var?_cell hg2 hv2 0)
  obtain ⟨a2, s2, rfl, hc2, hs2, hz2, rfl⟩ := errorString_of_trod Tryd.underlying27 rowE Tryd.underlying111 Tryd.underlying127 rfl rfl Tryd.underlying9 cellsE cellsT hd2 ok2
  have hcell2 : W.cell? ⟨1, 0, none⟩ = some (.iface 111 (.pointer (some a2))) := by simpa using World.var?_cell hg2 hv2 0
  have hblk2 := (hrows a2.block a2.off (by simp [MemPlace.row])).1
  obtain ⟨l3⟩ := cs3
  have ok3 : ∀ u v, l3 = [.iface u v] → Value.okWide Tryd.prog W .any 0 u v := fun u v e => by
    subst e
    exact (hrows 2 0 (by simp [MemPlace.row])).2 u v (by simpa using World.var?_cell hg3 hv3 0)
  obtain ⟨a3, s3, rfl, hc3, hs3, hz3, rfl⟩ := errorString_of_trod Tryd.underlying27 rowE Tryd.underlying111 Tryd.underlying127 rfl rfl Tryd.underlying9 cellsE cellsT hd3 ok3
  have hcell3 : W.cell? ⟨2, 0, none⟩ = some (.iface 111 (.pointer (some a3))) := by simpa using World.var?_cell hg3 hv3 0
  have hblk3 := (hrows a3.block a3.off (by simp [MemPlace.row])).1
  have hne0_1 : a0 ≠ a1 := by
    intro e
    rw [e] at hnd
    simp [MemPlace.row] at hnd
  have hne0_2 : a0 ≠ a2 := by
    intro e
    rw [e] at hnd
    simp [MemPlace.row] at hnd
  have hne0_3 : a0 ≠ a3 := by
    intro e
    rw [e] at hnd
    simp [MemPlace.row] at hnd
  have hne1_2 : a1 ≠ a2 := by
    intro e
    rw [e] at hnd
    simp [MemPlace.row] at hnd
  have hne1_3 : a1 ≠ a3 := by
    intro e
    rw [e] at hnd
    simp [MemPlace.row] at hnd
  have hne2_3 : a2 ≠ a3 := by
    intro e
    rw [e] at hnd
    simp [MemPlace.row] at hnd
  refine ⟨⟨fun c => if c = 1 then a0 else if c = 2 then a1 else if c = 4 then a2 else if c = 12 then a3 else default⟩, ?_⟩
  refine @Sent.mk ⟨fun c => if c = 1 then a0 else if c = 2 then a1 else if c = 4 then a2 else if c = 12 then a3 else default⟩ _ W ?_ ?_ ?_
  · intro c hc
    simp only [List.mem_cons, List.not_mem_nil, or_false] at hc
    rcases hc with rfl | rfl | rfl | rfl
    · exact hcell0
    · exact hcell1
    · exact hcell2
    · exact hcell3
  · intro c hc
    simp only [List.mem_cons, List.not_mem_nil, or_false] at hc
    rcases hc with rfl | rfl | rfl | rfl
    · exact hblk0
    · exact hblk1
    · exact hblk2
    · exact hblk3
  · intro c d hc hd e
    simp only [List.mem_cons, List.not_mem_nil, or_false] at hc hd
    rcases hc with rfl | rfl | rfl | rfl <;> rcases hd with rfl | rfl | rfl | rfl <;> first | rfl | exact absurd e hne0_1 | exact absurd e hne0_1.symm | exact absurd e hne0_2 | exact absurd e hne0_2.symm | exact absurd e hne0_3 | exact absurd e hne0_3.symm | exact absurd e hne1_2 | exact absurd e hne1_2.symm | exact absurd e hne1_3 | exact absurd e hne1_3.symm | exact absurd e hne2_3 | exact absurd e hne2_3.symm
end Go.Proofs.YtnnondbimdmcaaaDoor.halfAnyShards
