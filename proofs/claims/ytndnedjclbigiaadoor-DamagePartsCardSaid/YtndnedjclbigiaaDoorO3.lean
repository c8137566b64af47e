/- What some functions come to, each a function of its own text; joined out of: G9, F12, F14, F33, G1, F21, G10, L1, L2, F7, M2. No conditions but those in each theorem. -/
import Derived.Test.YtndnedjclbigiaaDoorO2
import Derived.Test.YtndnedjclbigiaaDoorO1
import Derived.Deep.LoopGhost
import Derived.Maps.OwnOps
import Derived.Maps.AppendAt
import Derived.KernelRfl
namespace Go.Proofs.YtndnedjclbigiaaDoor
open Go.RowKit Go.Proofs.YtndnedjclbigiaaDoorW.PrintWords Go.Proofs.YtndnedjclbigiaaDoorW.PrintLast Go.Proofs.YtndnedjclbigiaaDoorW.PrintMore
open Go.Proofs.YtndnedjclbigiaaDoor.F Go.Maps
set_option linter.unusedVariables false
set_option linter.unusedSectionVars false
set_option linter.unusedSimpArgs false
variable [Errs]

def damage_Left.L : List Int := [1, 4]
/-- What is left, as a list. -/
def damage_Left.f (k : Nat) (a0 a1 : Int) (l : List Int) : Option (List Int × Option Int) :=
  (damage_Check.f k a0 a1 l).bind fun c => match c with
  | some e => some ([], some e)
  | none => if 0 ≤ a0 ∧ 0 ≤ a1 ∧ a0 + a1 ≤ 100 ∧ ∀ x ∈ l, 0 ≤ x ∧ x < 1000 then some (D.leftL (2 * (a0 + a1)).toNat l, none) else none
theorem damage_Left.mono (a0 a1 : Int) (l : List Int) (k : Nat) : LeO (damage_Left.f k a0 a1 l) (damage_Left.f (k + 1) a0 a1 l) :=
  LeO.bind (damage_Check.mono a0 a1 l k) (fun _ => LeO.refl _)
def LeftPost (w : World) (r1 : List Int) (r2 : Option Int) (e : Ending) (w' : World) : Prop :=
  ∃ v0_ : Value, e = .returned (.tuple #[v0_, errW r2]) ∧ Kd.R (Kd.int .i64) 3 w' w.heap.size (fun _ => True) v0_ r1 ∧ Below w.heap.size w w'
theorem keyed3 : Keyed Tryd.prog 3 := int_keyed Tryd.underlying3

set_option maxHeartbeats 1600000 in
set_option maxRecDepth 100000 in
theorem damage_Left.no (k : Nat) (a0 a1 : Int) (A : Option Addr) (c : Nat) (l : List Int) (e : Int) (w : World) (hr : Kd.C (Kd.int .i64) w A l.length l) (hc : l.length ≤ c)
    (hchk : damage_Check.f k a0 a1 l = some (some e)) (hS : Sent damage_Left.L w) :
    Calls Tryd.prog 11 #[.int .i64 a0, .int .i64 a1, .slice A l.length c] w (LeftPost w [] (some e)) := by
  have HR := Aside0.mk hr
  have HC := Aside0.mk hc
  have HS := Aside0.mk hS
  have A1 := Aside0.mk hchk
  clear hr hc hS hchk
  go_enter Tryd.func11, Tryd.ntmps11
  go_wp2_with (go_at_call 19; (with_reducible refine (damage_Check.calls k a0 a1 _ _ l (some e) _ HR.out HC.out A1.out (Sent.sub (show ∀ c, c ∈ damage_Check.L → c ∈ damage_Left.L by decide) HS.out)).mono ?_); rintro e1 w1 ⟨rfl, ⟨nd, rfl⟩⟩; simp only [errW_some])
  go_ret2
  exact ⟨_, rfl, Kd.R_nil _ _ _ _ _, pw_below_drewN (Below.refl _ _) nd⟩

set_option maxHeartbeats 3200000 in
set_option maxRecDepth 100000 in
theorem damage_Left.go (k : Nat) (a0 a1 : Int) (A : Option Addr) (c : Nat) (l : List Int) (n : Nat) (w : World) (hr : Kd.C (Kd.int .i64) w A l.length l) (hc : l.length ≤ c)
    (h0 : 0 ≤ a0) (h1 : 0 ≤ a1) (hn : 2 * (a0 + a1) = (n : Int)) (hn2 : n ≤ 200) (hx : ∀ x ∈ l, 0 ≤ x ∧ x < 1000) (hchk : damage_Check.f k a0 a1 l = some none) (hS : Sent damage_Left.L w) :
    Calls Tryd.prog 11 #[.int .i64 a0, .int .i64 a1, .slice A l.length c] w (LeftPost w (D.leftL n l) none) := by
  have hmm := @run_makeMap Tryd.prog
  obtain ⟨i0, hi, hz0, hz1, hz2⟩ := info_parts info3
  have HI := Aside0.mk hi
  have HZ0 := Aside0.mk hz0
  have HZ1 := Aside0.mk hz1
  have HZ2 := Aside0.mk hz2
  have hws : wrap64 (a0 + a1) = a0 + a1 := by unfold wrap64; omega
  have hwm : wrap64 (2 * (a0 + a1)) = (n : Int) := by unfold wrap64; omega
  have HR := Aside0.mk hr
  have HC := Aside0.mk hc
  have HS := Aside0.mk hS
  have A1 := Aside0.mk hchk
  have HN2 := Aside0.mk hn2
  have HX := Aside0.mk hx
  have HLM : Aside0 ((l.length : Int) ≤ 9223372036854775807) := ⟨by have := hr.2.1; omega⟩
  clear hr hc hS hchk hn2 hn h0 h1 hi hz0 hz1 hz2 hx
  go_enter Tryd.func11, Tryd.ntmps11
  go_wp2_with (go_at_call 19; (with_reducible refine (damage_Check.calls k a0 a1 _ _ l none _ HR.out HC.out A1.out (Sent.sub (show ∀ c, c ∈ damage_Check.L → c ∈ damage_Left.L by decide) HS.out)).mono ?_); rintro e1 w1 ⟨rfl, hd⟩; simp only [errW_none]; have HB : Aside0 (Below w.heap.size w w1) := ⟨by obtain ⟨nd, rfl⟩ := hd; exact pw_below_drewN (Below.refl _ _) nd⟩; clear hd)
  obtain ⟨B, hB⟩ : ∃ B, B = w1.heap.size := ⟨_, rfl⟩
  have HBW : Aside0 (w.heap.size ≤ B) := ⟨by rw [hB]; exact below_size HB.out⟩
  have HM0 : Aside0 ((w1.alloc (.map #[] 0)).ownsMap Tryd.prog 3 (unitElem (H := Unit)) B 0 (.map [])) := ⟨by rw [hB]; exact World.ownsMap_made _ _ _ _⟩
  have HB1 : Aside0 (Below w.heap.size w (w1.alloc (.map #[] 0))) := ⟨below_alloc HB.out _⟩
  rw [← hB]
  simp only [hws, hwm]
  clear HB hB A1 hws hwm
  go_loopg [27] n (fun kq v27 w' => ∃ (j : Nat) (Dm : DataW Unit), v27 = .int .i64 (j : Int) ∧ Aside0 (j + kq = n) ∧ Aside0 (w'.ownsMap Tryd.prog 3 (unitElem (H := Unit)) B j Dm) ∧ Aside0 (D.KeySet Dm (fun x => decide (0 ≤ x ∧ x < (j : Int)))) ∧ Aside0 (Below w.heap.size w w'))
  case atStart =>
    refine ⟨0, .map [], rfl, ⟨by omega⟩, HM0, ⟨D.KeySet.empty.congr (fun x => by symm; exact decide_eq_false (by omega))⟩, HB1⟩
  case round =>
    clear HM0 HB1
    obtain ⟨j, Dm, rfl, H0, HM, HK, HB⟩ := hrel
    have h0 := H0.out
    by_cases hlt : j < n
    · obtain ⟨k1, rfl⟩ : ∃ k1, gk = k1 + 1 := ⟨gk - 1, by omega⟩
      have hjn : (j : Int) < (n : Int) := Int.ofNat_lt.2 hlt
      have hw1 : wrap64 ((j : Int) + 1) = ((j + 1 : Nat) : Int) := by have := HN2.out; unfold wrap64; omega
      have hkey : keyOf Tryd.prog 3 (.int .i64 (j : Int)) = some (.int .i64 (j : Int)) := keyOf_int_mk Tryd.underlying3 (WalkArith.wf_i64 (by have := HN2.out; omega))
      have HL : Aside0 (j < maxLen) := ⟨by have := HN2.out; unfold maxLen; omega⟩
      have HKEY := Aside0.mk hkey
      clear h0 hkey
      go_wp2_with (first
        | (at_mapUpdate; refine wpList_mapUpdate_own _ rfl _ _ _ 49 rfl 3 50 keyed3 Tryd.underlying49 (unitElem (H := Unit)) B j _ rfl HM.out HL.out _ _ _ rfl rfl HKEY.out _ [] unitElem_mk ?_; intro w2 hown2 hg2; have HM2 := Aside0.mk hown2; have HB2 : Aside0 (Below w.heap.size w w2) := ⟨HB.out.grown hg2 (below_size HB.out) (fun r e => by cases e; exact HBW.out)⟩; clear hown2 hg2)
        | go_in)
      go_roundg k1
      case measure => omega
      case rel => exact ⟨j + 1, _, by first | rfl | simp [hw1], ⟨by have := H0.out; omega⟩, HM2, ⟨(HK.out.put HM.out.isMap j _).congr (fun x => by rw [← Bool.decide_or]; exact decide_eq_decide.2 (by omega))⟩, HB2⟩
    · obtain rfl : gk = 0 := by omega
      obtain rfl : n = j := by omega
      have hjn : ¬ (n : Int) < (n : Int) := by omega
      clear h0 H0 hlt
      go_wp2
      obtain ⟨BX, hBX⟩ : ∃ BX, wr = BX := ⟨_, rfl⟩
      rw [hBX] at HM HB ⊢
      clear hBX
      go_loopg [36] l.length (fun kq v36 w' => ∃ (j : Nat) (De : DataW Unit), v36 = .int .i64 (j : Int) ∧ Aside0 (j + kq = l.length) ∧ Aside0 (w'.ownsMap Tryd.prog 3 (unitElem (H := Unit)) B n De) ∧ Aside0 (D.KeySet De (fun x => decide ((0 ≤ x ∧ x < (n : Int)) ∧ x ∉ l.take j))) ∧ Aside0 (Below w.heap.size w w'))
      case atStart =>
        exact ⟨0, Dm, rfl, ⟨by omega⟩, HM, ⟨HK.out.congr (fun x => decide_eq_decide.2 (by simp))⟩, HB⟩
      case round =>
        clear HM HB HK
        obtain ⟨j, De, rfl, H0, HM, HK, HB⟩ := hrel
        have h0 := H0.out
        by_cases hlt : j < l.length
        · obtain ⟨k1, rfl⟩ : ∃ k1, gk = k1 + 1 := ⟨gk - 1, by omega⟩
          have hjl : (j : Int) < (l.length : Int) := Int.ofNat_lt.2 hlt
          have hw1 : wrap64 ((j : Int) + 1) = ((j + 1 : Nat) : Int) := by have := HLM.out; unfold wrap64; omega
          obtain ⟨adr, rfl, hx⟩ := C_at_ (Kd.C_below HR.out HB.out) (j : Int) (by omega) hjl
          have hrd : rd l (j : Int) = l[j] := by unfold rd; rw [Int.toNat_natCast]; simp [hlt]
          rw [hrd, Int.toNat_natCast] at hx
          have HWF : Aside0 ((Lit.int .i64 l[j]).wf = true) := ⟨WalkArith.wf_i64 (by have := HX.out _ (List.getElem_mem hlt); omega)⟩
          clear h0 hrd
          go_wp2_with (first
            | (at_delete; refine wpList_delete_own _ rfl _ _ 49 3 rfl 50 keyed3 Tryd.underlying49 (unitElem (H := Unit)) B n _ rfl HM.out _ _ rfl (keyOf_int_mk Tryd.underlying3 HWF.out) ?_; intro w2 hown2 hturn2; have HM2 := Aside0.mk hown2; have HB2 : Aside0 (Below w.heap.size w w2) := ⟨HB.out.grown hturn2.grown (below_size HB.out) (fun r e => by cases e; exact HBW.out)⟩; clear hown2 hturn2)
            | go_in)
          go_roundg k1
          case measure => omega
          case rel => exact ⟨j + 1, _, by first | rfl | simp [hw1], ⟨by have := H0.out; omega⟩, HM2, ⟨(HK.out.del l[j]).congr (fun x => by rw [← decide_not, ← Bool.decide_and]; refine decide_eq_decide.2 ?_; rw [List.take_succ_eq_append_getElem hlt, List.mem_append, List.mem_singleton]; exact ⟨fun h => ⟨h.1.1, fun e => e.elim h.1.2 h.2⟩, fun h => ⟨⟨h.1, fun e => h.2 (.inl e)⟩, fun e => h.2 (.inr e)⟩⟩)⟩, HB2⟩
        · obtain rfl : gk = 0 := by omega
          obtain rfl : l.length = j := by omega
          have hjl : ¬ (l.length : Int) < (l.length : Int) := by omega
          clear h0 H0 hlt
          have HKF : Aside0 (D.KeySet De (fun x => decide ((0 ≤ x ∧ x < (n : Int)) ∧ x ∉ l))) := ⟨by have := HK.out; rwa [List.take_length] at this⟩
          go_wp2_with (first
            | (at_range; refine wpList_range_own _ rfl _ 49 rfl 3 50 keyed3 Tryd.underlying49 (unitElem (H := Unit)) B n _ rfl HM.out ?_; intro w0 hrg0 hg0 hs0)
            | go_in)
          (try go_frame)
          obtain ⟨R, hR⟩ : ∃ R, R = wr.heap.size := ⟨_, rfl⟩
          rw [← hR] at hrg0 ⊢
          have HRG0 := Aside0.mk hrg0
          have HB0 : Aside0 (Below w.heap.size w w0) := ⟨HB.out.grown hg0 (below_size HB.out) (fun r e => by cases e)⟩
          have HRB : Aside0 (B < R) := ⟨by rw [hR]; exact HM.out.lt⟩
          have HSZ : Aside0 (Maps.size De ≤ n) := ⟨HM.out.size_le⟩
          have HR0 : Aside0 (R < w0.heap.size) := ⟨hrg0.lt⟩
          clear hrg0 hg0 hs0 hR HM HB HK
          go_loopg [13] (Maps.size De) (fun kq v13 w' => ∃ (left : Lit → Bool) (cnt : Nat) (ss : List Int), Aside0 (w'.ranges Tryd.prog 3 (unitElem (H := Unit)) B R n De left cnt) ∧ Aside0 (cnt ≤ kq) ∧ Aside0 (ss.length + cnt ≤ n) ∧
            Aside0 (w'.ownsRow (B + 1) 3 1 v13 ss.length (ss.map (Value.int .i64))) ∧ Aside0 (CollectedI De left ss) ∧ Aside0 (Below w.heap.size w w'))
          case atStart =>
            exact ⟨_, _, [], HRG0, ⟨Nat.le_refl _⟩, ⟨by have := HSZ.out; simp; omega⟩, ⟨World.ownsRow_nil _ _ _ _⟩, ⟨CollectedI.start De⟩, HB0⟩
          case round =>
            clear HRG0 HB0
            obtain ⟨left, cnt, ss, HRG, HCK, HCS, HROW, HCO, HB⟩ := hrel
            go_wp2_with (first
              | (at_next; refine wpList_next_ranges _ rfl _ rfl 3 keyed3 (unitElem (H := Unit)) (Value.int .i64) (fun _ : Unit => Value.agg #[]) (fun key kl hk => by obtain ⟨x, hx, _⟩ := Maps.keyOf_i64 Tryd.underlying3 hk; exact ⟨x, hx⟩) (fun v y hv => ⟨(), (unitElem_inv hv).1⟩) B R n _ _ _ rfl HRG.out ?_ ?_)
              | go_in)
            · intro hc0 hl0
              have hp : ss.Perm (D.leftL n l) := D.collected_left HKF.out HCO.out hl0 (fun x => by rw [decide_eq_true_iff])
              have hl : (D.leftL n l).length = ss.length := hp.length_eq.symm
              have hs := D.sort_perm hp (D.leftL_sorted n l)
              rcases HROW.out.2 with ⟨hnil, hz⟩ | ⟨g, cap, cur, rfl, hbase, hb, h1, h2, h3, h4⟩
              · subst hnil
                have hz2 : D.leftL n l = [] := List.length_eq_zero_iff.1 (hl.trans hz)
                have HZ9 := Aside0.mk hz2
                clear hp hl hs hz hz2 hc0 hl0
                go_wp2_with (go_at_call 20; refine (Tryd.slices_Sort_int_none none 0 _).mono ?_; rintro e w' ⟨rfl, rfl⟩)
                go_ret2
                exact ⟨_, rfl, by rw [HZ9.out]; exact Kd.R_nil _ _ _ _ _, HB.out⟩
              · have hH : Go.Sort.Holds (Value.int .i64) wr g 0 ss.toArray := holds_of_block_i hb (by simpa using h4)
                have hgl : g < wr.heap.size := (Array.getElem?_eq_some_iff.1 hb).1
                have hcon := Tryd.slices_Sort_int g 0 cap ss wr hH hgl (by have := HCS.out; have := HN2.out; omega)
                simp only [hs] at hcon
                have HCON := Aside0.mk hcon
                have HOW : ∀ nn os, Aside0 ((Go.Sort.grow (Sort.putRow (Value.int .i64) (Sort.ahead wr nn) g 0 (D.leftL n l).toArray) os).ownsRow (B + 1) 3 1 (.slice (some ⟨g, 0, none⟩) ss.length cap) ss.length ((D.leftL n l).map (Value.int .i64))) := fun nn os => ⟨ownsRow_sorted_i hl hbase hb h1 h2 h3⟩
                have HBE : ∀ nn os, Aside0 (Below w.heap.size w (Go.Sort.grow (Sort.putRow (Value.int .i64) (Sort.ahead wr nn) g 0 (D.leftL n l).toArray) os)) := fun nn os => ⟨HB.out.grown (grownBy_sorted_i _) (below_size HB.out) (fun r e => by cases e; have := HBW.out; omega)⟩
                have HLE := Aside0.mk hl
                clear hp hl hs hc0 hl0 hH hcon h1 h2 h3 h4 hb hgl hbase
                go_wp2_with (go_at_call 20; refine HCON.out.mono ?_; rintro e w' ⟨rfl, nn, os, rfl⟩)
                go_ret2
                refine ⟨.slice (some ⟨g, 0, none⟩) ss.length cap, rfl, ?_, (HBE nn os).out⟩
                have ho := (HOW nn os).out
                rw [← HLE.out] at ho ⊢
                exact Kd.R_lower (Kd.R_of_own ho (fun _ _ => trivial)) (by have := HBW.out; omega)
            · intro x c kl y w2 cnt2 hkey hlk hv hat hrg2 hlt hg2 hs2 hen
              obtain ⟨x', ex, rfl, _⟩ := Maps.keyOf_i64 Tryd.underlying3 hkey
              obtain rfl : x = x' := encZ_inj ex
              obtain ⟨k1, rfl⟩ : ∃ k1, gk = k1 + 1 := ⟨gk - 1, by have := HCK.out; omega⟩
              have hrow2 := HROW.out.kept hg2 (Or.inr (row_ne_iter HROW.out HRG.out).symm)
              have HB2 : Aside0 (Below w.heap.size w w2) := ⟨HB.out.grown hg2 (below_size HB.out) (fun r e => by cases e; have := HBW.out; have := HRB.out; omega)⟩
              have HROW2 := Aside0.mk hrow2
              have HRG2 := Aside0.mk hrg2
              have HCO2 := Aside0.mk (HCO.out.step hlk hat)
              have HLT := Aside0.mk hlt
              have HSZ2 : Aside0 (B + 1 ≤ w2.heap.size) := ⟨by have := hrg2.lt; have := HRB.out; omega⟩
              clear hs2 hrow2 hrg2 hlk hat hlt hkey hv hg2 ex
              go_wp2_with (first
                | (at_builtin; refine wpList_append_own _ rfl _ _ 22 rfl (B + 1) 3 i0 (.int .i64 0) 1 8 Tryd.underlying22 HI.out HZ0.out HZ1.out HZ2.out rfl (by decide) _ _ _ rfl (HROW2.out.alloc _) ⟨w2.heap.size, 0, none⟩ 1 1 [Value.int .i64 x] rfl rfl (cell_one_new _ _ _) (by simp [Value.oneCell']) (by have := HCS.out; have := HN2.out; unfold maxLen; omega) (by have := HCS.out; have := HN2.out; omega) (by have := HSZ2.out; simp; omega) ?_; intro v' w3 hown' hg3 hnil3; clear hnil3; have HOWN3 := Aside0.mk hown'; have HG3 := Aside0.mk hg3; clear hown' hg3; (try go_frame))
                | go_in)
              have hrg3 := (HRG2.out.alloc _).kept HG3.out (row_ne_low HROW2.out (Nat.lt_succ_self B)) (row_ne_iter HROW2.out HRG2.out)
              go_roundg k1
              case measure => omega
              case rel => exact ⟨_, cnt2, ss ++ [x], ⟨hrg3⟩, ⟨by have := HCK.out; have := HLT.out; omega⟩, ⟨by have := HCS.out; have := HLT.out; simp; omega⟩, ⟨by have := HOWN3.out; simpa using this⟩, HCO2, ⟨(below_alloc HB2.out _).grown HG3.out (below_size (below_alloc HB2.out _)) (fun r e => by have := (HROW2.out.lt r e).1; have := HBW.out; omega)⟩⟩

theorem damage_Left.calls (k : Nat) (a0 : Int) (a1 : Int) (A2 : Option Addr) (c2 : Nat) (l2 : List Int) (r1 : List Int) (r2 : Option Int) (w : World) (hr2 : Kd.C (Kd.int .i64) w A2 l2.length l2) (hc2 : l2.length ≤ c2) (h : damage_Left.f k a0 a1 l2 = some (r1, r2)) (hS : Sent damage_Left.L w) :
    Calls Tryd.prog 11 #[.int .i64 a0, .int .i64 a1, .slice A2 l2.length c2] w fun e w' => ∃ v0_ : Value, e = .returned (.tuple #[v0_, errW r2]) ∧ Kd.R (Kd.int .i64) 3 w' w.heap.size (fun _ => True) v0_ r1 ∧ Below w.heap.size w w' := by
  unfold damage_Left.f at h
  obtain ⟨c, hc, h⟩ := Option.bind_eq_some_iff.mp h
  cases c with
  | some e =>
    obtain ⟨rfl, rfl⟩ : [] = r1 ∧ some e = r2 := by simpa using h
    exact damage_Left.no k a0 a1 A2 c2 l2 e w hr2 hc2 hc hS
  | none =>
    simp only at h
    by_cases hx : 0 ≤ a0 ∧ 0 ≤ a1 ∧ a0 + a1 ≤ 100 ∧ ∀ x ∈ l2, 0 ≤ x ∧ x < 1000
    · rw [if_pos hx] at h
      obtain ⟨rfl, rfl⟩ : D.leftL (2 * (a0 + a1)).toNat l2 = r1 ∧ none = r2 := by simpa using h
      exact damage_Left.go k a0 a1 A2 c2 l2 _ w hr2 hc2 hx.1 hx.2.1 (by omega) (by omega) hx.2.2.2 hc hS
    · rw [if_neg hx] at h; cases h

end Go.Proofs.YtndnedjclbigiaaDoor

namespace Go.Proofs.YtndnedjclbigiaaDoor.F
open Go.RowKit Go.Proofs.YtndnedjclbigiaaDoorW.PrintWords Go.Proofs.YtndnedjclbigiaaDoorW.PrintLast Go.Proofs.YtndnedjclbigiaaDoorW.PrintMore
attribute [local go_sem] max2_int min2_int max_two min_two max_three min_three max_four min_four   -- for this text's walks alone
set_option linter.unusedVariables false
set_option linter.unusedSimpArgs false
set_option linter.unusedSectionVars false
open Go.Proofs.YtndnedjclbigiaaDoor
variable [Errs]

/-! ### damage_Whole: function 12 -/
def damage_Whole.L : List Int := [1, 4]
def damage_Whole.l0 : Nat → List Int → List Int → List Int → Int → Int → Option (List Int × Option Int)
  | 0, _, _, _, _, _ => none
  | k + 1, x2, x9, x19, x20, x21 => if x21 < x20 then (if 0 ≤ x21 then (if x21 < (x19.length : Int) then (if (Int.tmod (rd x19 x21) 2) = 1 then (if x21 > 0 then (if 0 ≤ (wrap64 (x21 - 1)) then (if (wrap64 (x21 - 1)) < (x2.length : Int) then (if (rd x2 (wrap64 (x21 - 1))) = (wrap64 ((rd x19 x21) - 1)) then (if x9.length < 17592186044416 then (damage_Whole.l0 k x2 (x9 ++ [wrap64 (Int.tdiv (rd x19 x21) 2)]) x19 x20 (wrap64 (x21 + 1))) else (none)) else (damage_Whole.l0 k x2 x9 x19 x20 (wrap64 (x21 + 1)))) else (none)) else (none)) else (damage_Whole.l0 k x2 x9 x19 x20 (wrap64 (x21 + 1)))) else (damage_Whole.l0 k x2 x9 x19 x20 (wrap64 (x21 + 1)))) else (none)) else (none)) else (some (x9, none))
def damage_Whole.f (k : Nat) (a0 : Int) (a1 : Int) (l2 : List Int) : Option (List Int × Option Int) := (damage_Check.f k a0 a1 l2).bind fun t200 => (if t200.isNone = true then (damage_Whole.l0 k l2 ([] : List Int) l2 (l2.length : Int) 0) else (some (([] : List Int), some (t200.getD 0))))
theorem damage_Whole.mono_l : ∀ k, (∀ y0 y1 y2 y3 y4, LeO (damage_Whole.l0 k y0 y1 y2 y3 y4) (damage_Whole.l0 (k + 1) y0 y1 y2 y3 y4))
  | 0 => fun _ _ _ _ _ r h => by simp [damage_Whole.l0] at h
  | k + 1 => by
    have ih0 := damage_Whole.mono_l k
    · intro y0 y1 y2 y3 y4
      unfold damage_Whole.l0
      repeat' first
      | (with_reducible exact ih0 _ _ _ _ _)
      | (with_reducible exact damage_Check.mono _ _ _ _)
      | (with_reducible exact LeO.refl _)
      | (with_reducible exact LeO.none _)
      | (with_reducible refine LeO.ite ?_ ?_)
      | (with_reducible refine LeO.bind ?_ (fun _ => ?_))
      | exact ih0 _ _ _ _ _
      | exact damage_Check.mono _ _ _ _
      | exact LeO.none _
      | refine LeO.ite ?_ ?_
      | refine LeO.bind ?_ (fun _ => ?_)
theorem damage_Whole.mono : ∀ a0 a1 a2 k, LeO (damage_Whole.f k a0 a1 a2) (damage_Whole.f (k + 1) a0 a1 a2) := by
  intro a0 a1 a2 k
  have ih0 := damage_Whole.mono_l k
  unfold damage_Whole.f
  repeat' first
      | (with_reducible exact ih0 _ _ _ _ _)
      | (with_reducible exact damage_Check.mono _ _ _ _)
      | (with_reducible exact LeO.refl _)
      | (with_reducible exact LeO.none _)
      | (with_reducible refine LeO.ite ?_ ?_)
      | (with_reducible refine LeO.bind ?_ (fun _ => ?_))
      | exact ih0 _ _ _ _ _
      | exact damage_Check.mono _ _ _ _
      | exact LeO.none _
      | refine LeO.ite ?_ ?_
      | refine LeO.bind ?_ (fun _ => ?_)
set_option maxHeartbeats 8000000 in
set_option maxRecDepth 100000 in
theorem damage_Whole.calls (k : Nat) (a0 : Int) (a1 : Int) (A2 : Option Addr) (c2 : Nat) (l2 : List Int) (r1 : List Int) (r2 : Option Int) (w : World) (hr2 : Kd.C (Kd.int .i64) w A2 l2.length l2) (hc2 : l2.length ≤ c2) (h : damage_Whole.f k a0 a1 l2 = some (r1, r2)) (hS : Sent damage_Whole.L w) :
    Calls Tryd.prog 12 #[.int .i64 a0, .int .i64 a1, .slice A2 l2.length c2] w fun e w' => ∃ v0_ : Value, e = .returned (.tuple #[v0_, errW r2]) ∧ Kd.R (Kd.int .i64) 3 w' w.heap.size (fun _ => True) v0_ r1 ∧ Below w.heap.size w w' := by
  have hu30 := Tryd.underlying30
  have HR2 := Aside0.mk hr2
  have HC2 := Aside0.mk hc2
  clear hr2 hc2
  have HB := Aside0.mk (Below.refl w.heap.size w)
  have HS := Aside0.mk hS
  clear hS
  have H : ((damage_Check.f k a0 a1 l2).bind fun t200 => (if t200.isNone = true then (damage_Whole.l0 k l2 ([] : List Int) l2 (l2.length : Int) 0) else (some (([] : List Int), some (t200.getD 0))))) = some (r1, r2) := h
  clear h
  replace H := Option.bind_eq_some_iff.mp H
  obtain ⟨t200, A40, H⟩ := H
  replace H : (if t200.isNone = true then (damage_Whole.l0 k l2 ([] : List Int) l2 (l2.length : Int) 0) else (some (([] : List Int), some (t200.getD 0)))) = some (r1, r2) := H
  have A4 := Aside0.mk A40
  clear A40
  rcases t200 with _ | q201
  · have H1 : (damage_Whole.l0 k l2 ([] : List Int) l2 (l2.length : Int) 0) = some (r1, r2) := by rw [if_pos (show (none : Option Int).isNone = true by rfl)] at H; exact H
    clear H
    have H := H1
    clear H1
    try simp only [errW_none, errW_some]
    have H' := Aside0.mk H
    clear H
    go_enter Tryd.func12, Tryd.ntmps12
    go_wp2_with (first | ((with_reducible refine gate_callee (f := 19) rfl ?_); refine goesL_ (some 15) rfl rfl Tryd.func19 (by kernel_rfl) rfl #[.int .i64 a0, .int .i64 a1, .slice A2 l2.length c2] rfl (by (try simp only [List.map_toArray, List.map_cons, List.map_nil]); first | done | rfl | (simp only [List.length_drop, List.length_take]; rfl)) ?_; (with_reducible refine (damage_Check.calls k a0 a1 _ _ l2 none _ ?side1 ?side2 A4.out (Sent.sub (show ∀ c, c ∈ damage_Check.L → c ∈ damage_Whole.L by decide) (Sent.below HS.out (by repeat (first | (with_reducible first | exact HB.out | apply below_alloc | apply pw_below_drewN | apply below_drew1) | exact HB.out))))).mono ?_); (case side1 => repeat (first | exact HR2.out | (with_reducible refine Kd.C_alloc ?_ _) | (with_reducible refine Kd.C_drewN ?_ _) | (with_reducible refine Kd.C_drew ?_))); (case side2 => exact HC2.out); rintro e w' ⟨rfl, ⟨nd, rfl⟩⟩; refine ⟨_, rfl, ?_⟩; (try simp only [errW_none, errW_some])))
    go_loopg [9, 21] k (fun kq v9 v21 w' => ∃ (x9_1 : List Int) (x21_1 : Int), v21 = .int .i64 x21_1 ∧ Aside0 (damage_Whole.l0 kq l2 x9_1 l2 (l2.length : Int) x21_1 = some (r1, r2)) ∧ Aside0 (kq ≤ k) ∧ Aside0 (Kd.R (Kd.int .i64) 3 w' w.heap.size (fun _ => True) v9 x9_1) ∧ Aside0 (Below w.heap.size w w'))
    case atStart => exact ⟨(([] : List Int)), (0), (by first | rfl | (simp; done) | (simp [*]; done)), H', ⟨Nat.le_refl _⟩, ⟨by first | exact Kd.R_nil _ _ _ _ _ | exact Kd.N_nil _ _ _ _ _ | exact Kd.V_nil _ _ _ _ _ | exact Kd.Q_nil _ _ _ _ _ | exact Kd.S_nil _ _ _ _ _⟩, ⟨by repeat (first | (with_reducible first | exact HB.out | apply below_alloc | apply pw_below_drewN | apply below_drew1) | exact HB.out)⟩⟩
    case round =>
      clear H'
      try clear c1
      try clear c2
      try clear p2
      try clear q2
      try clear q201
      obtain ⟨x9_1, x21_1, rfl, HA, HK1, HO_9, HB⟩ := hrel
      cases gk with
      | zero => exact absurd HA.out (by simp [damage_Whole.l0])
      | succ k1 =>
        have H := HA.out
        clear HA
        first | rw [damage_Whole.l0] at H | simp only [damage_Whole.l0] at H
        by_cases c5 : x21_1 < (l2.length : Int)
        · rw [if_pos c5] at H
          have c5b0 : decide (x21_1 < (l2.length : Int)) = true := decide_eq_true c5
          clear c5
          by_cases c6 : 0 ≤ x21_1
          · rw [if_pos c6] at H
            have c6b0 : decide (0 ≤ x21_1) = true := decide_eq_true c6
            clear c6
            by_cases c7 : x21_1 < (l2.length : Int)
            · rw [if_pos c7] at H
              have c7b0 : decide (x21_1 < (l2.length : Int)) = true := decide_eq_true c7
              clear c7
              by_cases c8 : (Int.tmod (rd l2 x21_1) 2) = 1
              · rw [if_pos c8] at H
                have c8b0 : ((Int.tmod (rd l2 x21_1) 2) == 1) = true := beq_iff_eq.mpr c8
                have c8b1 : ((Int.tmod (rd l2 x21_1) 2) != 1) = false := bne_eq_false_iff_eq.mpr c8
                clear c8
                by_cases c9 : x21_1 > 0
                · rw [if_pos c9] at H
                  have c9b0 : decide (0 < x21_1) = true := decide_eq_true c9
                  clear c9
                  obtain ⟨ji10, hji10⟩ : ∃ j_ : Int, (wrap64 (x21_1 - 1)) = j_ := ⟨_, rfl⟩
                  replace H : (if 0 ≤ (ji10) then (if (ji10) < (l2.length : Int) then (if (rd l2 (ji10)) = (wrap64 ((rd l2 x21_1) - 1)) then (if x9_1.length < 17592186044416 then (damage_Whole.l0 k1 l2 (x9_1 ++ [wrap64 (Int.tdiv (rd l2 x21_1) 2)]) l2 (l2.length : Int) (wrap64 (x21_1 + 1))) else (none)) else (damage_Whole.l0 k1 l2 x9_1 l2 (l2.length : Int) (wrap64 (x21_1 + 1)))) else (none)) else (none)) = some (r1, r2) := by first | (rw [hji10] at H; exact H) | (simp only [hji10] at H ⊢; exact H)
                  have hji10w : (IntKind.i64.wrap (x21_1 - 1)) = ji10 := (i64_w _).trans hji10
                  by_cases c11 : 0 ≤ (ji10)
                  · rw [if_pos c11] at H
                    have c11b0 : decide (0 ≤ (ji10)) = true := decide_eq_true c11
                    clear c11
                    by_cases c12 : (ji10) < (l2.length : Int)
                    · rw [if_pos c12] at H
                      have c12b0 : decide ((ji10) < (l2.length : Int)) = true := decide_eq_true c12
                      clear c12
                      by_cases c13 : (rd l2 (ji10)) = (wrap64 ((rd l2 x21_1) - 1))
                      · rw [if_pos c13] at H
                        have c13b0 : ((rd l2 (ji10)) == (wrap64 ((rd l2 x21_1) - 1))) = true := beq_iff_eq.mpr c13
                        have c13b1 : ((rd l2 (ji10)) != (wrap64 ((rd l2 x21_1) - 1))) = false := bne_eq_false_iff_eq.mpr c13
                        clear c13
                        by_cases c14 : x9_1.length < 17592186044416
                        · rw [if_pos c14] at H
                          have LMc14 := Aside0.mk c14
                          clear c14
                          obtain ⟨y204, hy204⟩ : ∃ y_ : List Int, y_ = (x9_1 ++ [wrap64 (Int.tdiv (rd l2 x21_1) 2)]) := ⟨_, rfl⟩
                          replace H : (damage_Whole.l0 k1 l2 y204 l2 (l2.length : Int) (wrap64 (x21_1 + 1))) = some (r1, r2) := by first | (rw [hy204]; with_reducible exact H) | (have H2_ := (Option.bind_some _ _).symm.trans H; rw [hy204]; with_reducible exact H2_) | (have H2_ := (Option.bind_some _ _).symm.trans H; with_reducible exact H2_) | with_reducible exact H | (rw [hy204]; exact H) | exact H
                          have Ny204 := Aside0.mk hy204
                          clear hy204
                          have H' := Aside0.mk H
                          clear H
                          have p202 : 0 ≤ (x21_1 : Int) := of_decide_eq_true (by first | (with_reducible assumption) | assumption)
                          have q202 : x21_1 < (l2.length : Int) := of_decide_eq_true (by first | (with_reducible assumption) | assumption)
                          obtain ⟨ad202, e202, hx202_0⟩ := Kd.at_int HR2.out x21_1 p202 q202
                          cases e202
                          replace hx202_0 := (HB.out.cell (World.block_lt_of_cell? w _ hx202_0)).trans hx202_0
                          replace p202 := eq_true p202
                          replace q202 := eq_true q202
                          have p203 : 0 ≤ ((ji10) : Int) := of_decide_eq_true (by first | (with_reducible assumption) | assumption)
                          have q203 : (ji10) < (l2.length : Int) := of_decide_eq_true (by first | (with_reducible assumption) | assumption)
                          obtain ⟨ad203, e203, hx203_0⟩ := Kd.at_int HR2.out (ji10) p203 q203
                          obtain rfl : ad202 = ad203 := (by injection e203)
                          replace hx203_0 := (HB.out.cell (World.block_lt_of_cell? w _ hx203_0)).trans hx203_0
                          replace p203 := eq_true p203
                          replace q203 := eq_true q203
                          go_wp2_with (first | ((with_reducible refine gate_builtin (b := .append) (xs := #[.tmp 43, .tmp 46]) rfl ?_); at_builtin; refine Kd.R_append (Kd.int .i64) (w0 := w) w.heap.size rfl (.tmp 43) (.tmp 46) 22 3 (.int .i64 0) 8 rfl Tryd.underlying22 info3 rfl (by decide) (by omega) u9 x9_1 (wrap64 (Int.tdiv (rd l2 x21_1) 2)) [.int .i64 (wrap64 (Int.tdiv (rd l2 x21_1) 2))] (fun _ => True) (fun _ => False) rfl rfl ?aP (fun _ hk => hk.elim) ?aF ?aO ?aB ?aS ?aL ?_; (case aP => exact rfl); (case aB => exact (by repeat (first | (with_reducible first | exact HB.out | apply below_alloc | apply pw_below_drewN | apply below_drew1) | exact HB.out))); (case aF => exact (fun _ _ => trivial)); (case aO => exact (by (with_reducible repeat (first | apply Kd.R_alloc | apply Kd.R_drewN | apply Kd.R_drew)); exact HO_9.out)); (case aS => exact (below_size (by repeat (first | (with_reducible first | exact HB.out | apply below_alloc | apply pw_below_drewN | apply below_drew1) | exact HB.out)))); (case aL => have := LMc14.out; omega); intro v205 w15 ho hb hg hat; rw [← Ny204.out] at ho; have n0_ := Aside0.mk (hb); have n1_ := Aside0.mk (ho); clear HB; clear HO_9; have HB := n0_; have HO206 := n1_; clear n0_ n1_; clear ho hb hg hat))
                          go_roundg k1
                          case measure => have := HK1.out; omega
                          case rel => exact ⟨(y204), (wrap64 (x21_1 + 1)), (by first | rfl | (simp; done) | (simp [*]; done)), H', ⟨by have := HK1.out; omega⟩, ⟨by (with_reducible repeat (first | apply Kd.R_alloc | apply Kd.R_drewN | apply Kd.R_drew)); exact HO206.out⟩, ⟨by repeat (first | (with_reducible first | exact HB.out | apply below_alloc | apply pw_below_drewN | apply below_drew1) | exact HB.out)⟩⟩
                        · rw [if_neg c14] at H
                          exact absurd H (by simp)
                      · rw [if_neg c13] at H
                        have c13b0 : ((rd l2 (ji10)) == (wrap64 ((rd l2 x21_1) - 1))) = false := beq_eq_false_iff_ne.mpr c13
                        have c13b1 : ((rd l2 (ji10)) != (wrap64 ((rd l2 x21_1) - 1))) = true := bne_iff_ne.mpr c13
                        have H' := Aside0.mk H
                        clear H
                        have p202 : 0 ≤ (x21_1 : Int) := of_decide_eq_true (by first | (with_reducible assumption) | assumption)
                        have q202 : x21_1 < (l2.length : Int) := of_decide_eq_true (by first | (with_reducible assumption) | assumption)
                        obtain ⟨ad202, e202, hx202_0⟩ := Kd.at_int HR2.out x21_1 p202 q202
                        cases e202
                        replace hx202_0 := (HB.out.cell (World.block_lt_of_cell? w _ hx202_0)).trans hx202_0
                        replace p202 := eq_true p202
                        replace q202 := eq_true q202
                        have p203 : 0 ≤ ((ji10) : Int) := of_decide_eq_true (by first | (with_reducible assumption) | assumption)
                        have q203 : (ji10) < (l2.length : Int) := of_decide_eq_true (by first | (with_reducible assumption) | assumption)
                        obtain ⟨ad203, e203, hx203_0⟩ := Kd.at_int HR2.out (ji10) p203 q203
                        obtain rfl : ad202 = ad203 := (by injection e203)
                        replace hx203_0 := (HB.out.cell (World.block_lt_of_cell? w _ hx203_0)).trans hx203_0
                        replace p203 := eq_true p203
                        replace q203 := eq_true q203
                        go_wp2
                        go_roundg k1
                        case measure => have := HK1.out; omega
                        case rel => exact ⟨(x9_1), (wrap64 (x21_1 + 1)), (by first | rfl | (simp; done) | (simp [*]; done)), H', ⟨by have := HK1.out; omega⟩, ⟨by (with_reducible repeat (first | apply Kd.R_alloc | apply Kd.R_drewN | apply Kd.R_drew)); exact HO_9.out⟩, ⟨by repeat (first | (with_reducible first | exact HB.out | apply below_alloc | apply pw_below_drewN | apply below_drew1) | exact HB.out)⟩⟩
                    · rw [if_neg c12] at H
                      exact absurd H (by simp)
                  · rw [if_neg c11] at H
                    exact absurd H (by simp)
                · rw [if_neg c9] at H
                  have c9b0 : decide (0 < x21_1) = false := decide_eq_false c9
                  clear c9
                  have H' := Aside0.mk H
                  clear H
                  have p202 : 0 ≤ (x21_1 : Int) := of_decide_eq_true (by first | (with_reducible assumption) | assumption)
                  have q202 : x21_1 < (l2.length : Int) := of_decide_eq_true (by first | (with_reducible assumption) | assumption)
                  obtain ⟨ad202, e202, hx202_0⟩ := Kd.at_int HR2.out x21_1 p202 q202
                  cases e202
                  replace hx202_0 := (HB.out.cell (World.block_lt_of_cell? w _ hx202_0)).trans hx202_0
                  replace p202 := eq_true p202
                  replace q202 := eq_true q202
                  go_wp2
                  go_roundg k1
                  case measure => have := HK1.out; omega
                  case rel => exact ⟨(x9_1), (wrap64 (x21_1 + 1)), (by first | rfl | (simp; done) | (simp [*]; done)), H', ⟨by have := HK1.out; omega⟩, ⟨by (with_reducible repeat (first | apply Kd.R_alloc | apply Kd.R_drewN | apply Kd.R_drew)); exact HO_9.out⟩, ⟨by repeat (first | (with_reducible first | exact HB.out | apply below_alloc | apply pw_below_drewN | apply below_drew1) | exact HB.out)⟩⟩
              · rw [if_neg c8] at H
                have c8b0 : ((Int.tmod (rd l2 x21_1) 2) == 1) = false := beq_eq_false_iff_ne.mpr c8
                have c8b1 : ((Int.tmod (rd l2 x21_1) 2) != 1) = true := bne_iff_ne.mpr c8
                have H' := Aside0.mk H
                clear H
                have p202 : 0 ≤ (x21_1 : Int) := of_decide_eq_true (by first | (with_reducible assumption) | assumption)
                have q202 : x21_1 < (l2.length : Int) := of_decide_eq_true (by first | (with_reducible assumption) | assumption)
                obtain ⟨ad202, e202, hx202_0⟩ := Kd.at_int HR2.out x21_1 p202 q202
                cases e202
                replace hx202_0 := (HB.out.cell (World.block_lt_of_cell? w _ hx202_0)).trans hx202_0
                replace p202 := eq_true p202
                replace q202 := eq_true q202
                go_wp2
                go_roundg k1
                case measure => have := HK1.out; omega
                case rel => exact ⟨(x9_1), (wrap64 (x21_1 + 1)), (by first | rfl | (simp; done) | (simp [*]; done)), H', ⟨by have := HK1.out; omega⟩, ⟨by (with_reducible repeat (first | apply Kd.R_alloc | apply Kd.R_drewN | apply Kd.R_drew)); exact HO_9.out⟩, ⟨by repeat (first | (with_reducible first | exact HB.out | apply below_alloc | apply pw_below_drewN | apply below_drew1) | exact HB.out)⟩⟩
            · rw [if_neg c7] at H
              exact absurd H (by simp)
          · rw [if_neg c6] at H
            exact absurd H (by simp)
        · rw [if_neg c5] at H
          have c5b0 : decide (x21_1 < (l2.length : Int)) = false := decide_eq_false c5
          clear c5
          simp only [Option.some.injEq, Prod.mk.injEq] at H
          obtain ⟨rfl, rfl⟩ := H
          go_wp2
          go_ret2
          exact ⟨_, by first | rfl | (simp [errW_none, errW_some] <;> rfl) | (simp [*, errW_none, errW_some] <;> rfl), by (with_reducible repeat (first | apply Kd.R_alloc | apply Kd.R_drewN | apply Kd.R_drew)); exact HO_9.out, by repeat (first | (with_reducible first | exact HB.out | apply below_alloc | apply pw_below_drewN | apply below_drew1) | exact HB.out)⟩
  · have H1 : (some (([] : List Int), some q201)) = some (r1, r2) := by rw [if_neg (show ¬ (some q201).isNone = true by simp)] at H; exact H
    clear H
    have H := H1
    clear H1
    try simp only [errW_none, errW_some]
    simp only [Option.some.injEq, Prod.mk.injEq] at H
    obtain ⟨rfl, rfl⟩ := H
    go_enter Tryd.func12, Tryd.ntmps12
    go_wp2_with (first | ((with_reducible refine gate_callee (f := 19) rfl ?_); refine goesL_ (some 15) rfl rfl Tryd.func19 (by kernel_rfl) rfl #[.int .i64 a0, .int .i64 a1, .slice A2 l2.length c2] rfl (by (try simp only [List.map_toArray, List.map_cons, List.map_nil]); first | done | rfl | (simp only [List.length_drop, List.length_take]; rfl)) ?_; (with_reducible refine (damage_Check.calls k a0 a1 _ _ l2 (some q201) _ ?side1 ?side2 A4.out (Sent.sub (show ∀ c, c ∈ damage_Check.L → c ∈ damage_Whole.L by decide) (Sent.below HS.out (by repeat (first | (with_reducible first | exact HB.out | apply below_alloc | apply pw_below_drewN | apply below_drew1) | exact HB.out))))).mono ?_); (case side1 => repeat (first | exact HR2.out | (with_reducible refine Kd.C_alloc ?_ _) | (with_reducible refine Kd.C_drewN ?_ _) | (with_reducible refine Kd.C_drew ?_))); (case side2 => exact HC2.out); rintro e w' ⟨rfl, ⟨nd, rfl⟩⟩; refine ⟨_, rfl, ?_⟩; (try simp only [errW_none, errW_some])))
    go_ret2
    exact ⟨_, by first | rfl | (simp [errW_none, errW_some] <;> rfl) | (simp [*, errW_none, errW_some] <;> rfl), by first | exact Kd.R_nil _ _ _ _ _ | exact Kd.N_nil _ _ _ _ _ | exact Kd.V_nil _ _ _ _ _ | exact Kd.Q_nil _ _ _ _ _ | exact Kd.S_nil _ _ _ _ _, by repeat (first | (with_reducible first | exact HB.out | apply below_alloc | apply pw_below_drewN | apply below_drew1) | exact HB.out)⟩

end Go.Proofs.YtndnedjclbigiaaDoor.F

namespace Go.Proofs.YtndnedjclbigiaaDoor.F
open Go.RowKit Go.Proofs.YtndnedjclbigiaaDoorW.PrintWords Go.Proofs.YtndnedjclbigiaaDoorW.PrintLast Go.Proofs.YtndnedjclbigiaaDoorW.PrintMore
attribute [local go_sem] max2_int min2_int max_two min_two max_three min_three max_four min_four   -- for this text's walks alone
set_option linter.unusedVariables false
set_option linter.unusedSimpArgs false
set_option linter.unusedSectionVars false
open Go.Proofs.YtndnedjclbigiaaDoor
variable [Errs]

/-! ### damage_Kind: function 14 -/
def damage_Kind.L : List Int := [1, 4]
def damage_Kind.f (k : Nat) (a0 : Int) (a1 : Int) (l2 : List Int) : Option (Int × Option Int) := (damage_Whole.f k a0 a1 l2).bind fun bt207 => (if bt207.2.isNone = true then (if (l2.length : Int) = 0 then (some (0, none)) else (if (l2.length : Int) = 2 then (if (bt207.1.length : Int) = 1 then (if 0 < (bt207.1.length : Int) then (if (rd bt207.1 0) < a0 then (some (1, none)) else (some (2, none))) else (none)) else (some (2, none))) else (some (2, none)))) else (some (0, some (bt207.2.getD 0))))
theorem damage_Kind.mono : ∀ a0 a1 a2 k, LeO (damage_Kind.f k a0 a1 a2) (damage_Kind.f (k + 1) a0 a1 a2) := by
  intro a0 a1 a2 k
  unfold damage_Kind.f
  repeat' first
      | (with_reducible exact damage_Whole.mono _ _ _ _)
      | (with_reducible exact LeO.refl _)
      | (with_reducible exact LeO.none _)
      | (with_reducible refine LeO.ite ?_ ?_)
      | (with_reducible refine LeO.bind ?_ (fun _ => ?_))
      | exact damage_Whole.mono _ _ _ _
      | exact LeO.none _
      | refine LeO.ite ?_ ?_
      | refine LeO.bind ?_ (fun _ => ?_)
set_option maxHeartbeats 8000000 in
set_option maxRecDepth 100000 in
theorem damage_Kind.calls (k : Nat) (a0 : Int) (a1 : Int) (A2 : Option Addr) (c2 : Nat) (l2 : List Int) (r1 : Int) (r2 : Option Int) (w : World) (hr2 : Kd.C (Kd.int .i64) w A2 l2.length l2) (hc2 : l2.length ≤ c2) (h : damage_Kind.f k a0 a1 l2 = some (r1, r2)) (hS : Sent damage_Kind.L w) :
    Calls Tryd.prog 14 #[.int .i64 a0, .int .i64 a1, .slice A2 l2.length c2] w fun e w' => e = .returned (.tuple #[.int .i64 r1, errW r2]) ∧ Below w.heap.size w w' := by
  have hu30 := Tryd.underlying30
  have HR2 := Aside0.mk hr2
  have HC2 := Aside0.mk hc2
  clear hr2 hc2
  have HB := Aside0.mk (Below.refl w.heap.size w)
  have HS := Aside0.mk hS
  clear hS
  have H : ((damage_Whole.f k a0 a1 l2).bind fun bt207 => (if bt207.2.isNone = true then (if (l2.length : Int) = 0 then (some (0, none)) else (if (l2.length : Int) = 2 then (if (bt207.1.length : Int) = 1 then (if 0 < (bt207.1.length : Int) then (if (rd bt207.1 0) < a0 then (some (1, none)) else (some (2, none))) else (none)) else (some (2, none))) else (some (2, none)))) else (some (0, some (bt207.2.getD 0))))) = some (r1, r2) := h
  clear h
  replace H := Option.bind_eq_some_iff.mp H
  obtain ⟨⟨t207, t208⟩, A40, H⟩ := H
  replace H : (if t208.isNone = true then (if (l2.length : Int) = 0 then (some (0, none)) else (if (l2.length : Int) = 2 then (if (t207.length : Int) = 1 then (if 0 < (t207.length : Int) then (if (rd t207 0) < a0 then (some (1, none)) else (some (2, none))) else (none)) else (some (2, none))) else (some (2, none)))) else (some (0, some (t208.getD 0)))) = some (r1, r2) := H
  have A4 := Aside0.mk A40
  clear A40
  rcases t208 with _ | q211
  · have H1 : (if (l2.length : Int) = 0 then (some (0, none)) else (if (l2.length : Int) = 2 then (if (t207.length : Int) = 1 then (if 0 < (t207.length : Int) then (if (rd t207 0) < a0 then (some (1, none)) else (some (2, none))) else (none)) else (some (2, none))) else (some (2, none)))) = some (r1, r2) := by rw [if_pos (show (none : Option Int).isNone = true by rfl)] at H; exact H
    clear H
    have H := H1
    clear H1
    try simp only [errW_none, errW_some]
    by_cases c5 : (l2.length : Int) = 0
    · rw [if_pos c5] at H
      have c5b0 : ((l2.length : Int) == 0) = true := beq_iff_eq.mpr c5
      have c5b1 : ((l2.length : Int) != 0) = false := bne_eq_false_iff_eq.mpr c5
      clear c5
      simp only [Option.some.injEq, Prod.mk.injEq] at H
      obtain ⟨rfl, rfl⟩ := H
      go_enter Tryd.func14, Tryd.ntmps14
      go_wp2_with (first | ((with_reducible refine gate_callee (f := 12) rfl ?_); refine goesL_ (some 14) rfl rfl Tryd.func12 (by kernel_rfl) rfl #[.int .i64 a0, .int .i64 a1, .slice A2 l2.length c2] rfl (by (try simp only [List.map_toArray, List.map_cons, List.map_nil]); first | done | rfl | (simp only [List.length_drop, List.length_take]; rfl)) ?_; (with_reducible refine (damage_Whole.calls k a0 a1 _ _ l2 t207 none _ ?side1 ?side2 A4.out (Sent.sub (show ∀ c, c ∈ damage_Whole.L → c ∈ damage_Kind.L by decide) (Sent.below HS.out (by repeat (first | (with_reducible first | exact HB.out | apply below_alloc | apply pw_below_drewN | apply below_drew1) | exact HB.out))))).mono ?_); (case side1 => repeat (first | exact HR2.out | (with_reducible refine Kd.C_alloc ?_ _) | (with_reducible refine Kd.C_drewN ?_ _) | (with_reducible refine Kd.C_drew ?_))); (case side2 => exact HC2.out); rintro e w6 ⟨v209, rfl, ho0, hb⟩; refine ⟨_, rfl, ?_⟩; have n0_ := Aside0.mk (Kd.R_lower ho0 (below_size (by repeat (first | (with_reducible first | exact HB.out | apply below_alloc | apply pw_below_drewN | apply below_drew1) | exact HB.out)))); have n1_ := Aside0.mk (below_step (by repeat (first | (with_reducible first | exact HB.out | apply below_alloc | apply pw_below_drewN | apply below_drew1) | exact HB.out)) hb); clear HB; have HO210 := n0_; have HB := n1_; clear n0_ n1_; (try clear hb); (try clear hb2); (try clear hk); (try clear hi); (try clear ho0); (try simp only [errW_none, errW_some])))
      go_ret2
      exact ⟨by first | rfl | (simp [errW_none, errW_some] <;> rfl) | (simp [*, errW_none, errW_some] <;> rfl), by repeat (first | (with_reducible first | exact HB.out | apply below_alloc | apply pw_below_drewN | apply below_drew1) | exact HB.out)⟩
    · rw [if_neg c5] at H
      have c5b0 : ((l2.length : Int) == 0) = false := beq_eq_false_iff_ne.mpr c5
      have c5b1 : ((l2.length : Int) != 0) = true := bne_iff_ne.mpr c5
      have c5b2 : ¬ (l2 = []) := fun h_ => c5 (by rw [h_]; rfl)
      by_cases c7 : (l2.length : Int) = 2
      · rw [if_pos c7] at H
        have c7b0 : ((l2.length : Int) == 2) = true := beq_iff_eq.mpr c7
        have c7b1 : ((l2.length : Int) != 2) = false := bne_eq_false_iff_eq.mpr c7
        clear c7
        by_cases c8 : (t207.length : Int) = 1
        · rw [if_pos c8] at H
          have c8b0 : ((t207.length : Int) == 1) = true := beq_iff_eq.mpr c8
          have c8b1 : ((t207.length : Int) != 1) = false := bne_eq_false_iff_eq.mpr c8
          clear c8
          by_cases c9 : 0 < (t207.length : Int)
          · rw [if_pos c9] at H
            have c9b0 : decide (0 < (t207.length : Int)) = true := decide_eq_true c9
            have c9b1 : decide (0 < t207.length) = true := decide_eq_true (by omega)
            clear c9
            by_cases c10 : (rd t207 0) < a0
            · rw [if_pos c10] at H
              have c10b0 : decide ((rd t207 0) < a0) = true := decide_eq_true c10
              clear c10
              simp only [Option.some.injEq, Prod.mk.injEq] at H
              obtain ⟨rfl, rfl⟩ := H
              go_enter Tryd.func14, Tryd.ntmps14
              go_wp2_with (first | ((with_reducible refine gate_callee (f := 12) rfl ?_); refine goesL_ (some 14) rfl rfl Tryd.func12 (by kernel_rfl) rfl #[.int .i64 a0, .int .i64 a1, .slice A2 l2.length c2] rfl (by (try simp only [List.map_toArray, List.map_cons, List.map_nil]); first | done | rfl | (simp only [List.length_drop, List.length_take]; rfl)) ?_; (with_reducible refine (damage_Whole.calls k a0 a1 _ _ l2 t207 none _ ?side1 ?side2 A4.out (Sent.sub (show ∀ c, c ∈ damage_Whole.L → c ∈ damage_Kind.L by decide) (Sent.below HS.out (by repeat (first | (with_reducible first | exact HB.out | apply below_alloc | apply pw_below_drewN | apply below_drew1) | exact HB.out))))).mono ?_); (case side1 => repeat (first | exact HR2.out | (with_reducible refine Kd.C_alloc ?_ _) | (with_reducible refine Kd.C_drewN ?_ _) | (with_reducible refine Kd.C_drew ?_))); (case side2 => exact HC2.out); rintro e w11 ⟨v209, rfl, ho0, hb⟩; refine ⟨_, rfl, ?_⟩; have n0_ := Aside0.mk (Kd.R_lower ho0 (below_size (by repeat (first | (with_reducible first | exact HB.out | apply below_alloc | apply pw_below_drewN | apply below_drew1) | exact HB.out)))); have n1_ := Aside0.mk (below_step (by repeat (first | (with_reducible first | exact HB.out | apply below_alloc | apply pw_below_drewN | apply below_drew1) | exact HB.out)) hb); clear HB; have HO210 := n0_; have HB := n1_; clear n0_ n1_; (try clear hb); (try clear hb2); (try clear hk); (try clear hi); (try clear ho0); (try simp only [errW_none, errW_some]); obtain ⟨Ao12, co12, eo12⟩ := Kd.R_slice HO210.out; subst eo12; have p212 : 0 ≤ (0 : Int) := (by omega); have q212 : 0 < (t207.length : Int) := of_decide_eq_true (by first | (with_reducible assumption) | assumption); obtain ⟨ad212, e212, hx212_0⟩ := Kd.at_int (Kd.R_reads' HO210.out).2.2 0 p212 q212; cases e212; have qi212 : (0 < t207.length) = True := eq_true (by omega); (try rw [show ((0 : Int)).toNat = 0 from rfl] at hx212_0); (try rw [Addr.add_zero'] at hx212_0); replace p212 := eq_true p212; replace q212 := eq_true q212))
              go_ret2
              exact ⟨by first | rfl | (simp [errW_none, errW_some] <;> rfl) | (simp [*, errW_none, errW_some] <;> rfl), by repeat (first | (with_reducible first | exact HB.out | apply below_alloc | apply pw_below_drewN | apply below_drew1) | exact HB.out)⟩
            · rw [if_neg c10] at H
              have c10b0 : decide ((rd t207 0) < a0) = false := decide_eq_false c10
              clear c10
              simp only [Option.some.injEq, Prod.mk.injEq] at H
              obtain ⟨rfl, rfl⟩ := H
              go_enter Tryd.func14, Tryd.ntmps14
              go_wp2_with (first | ((with_reducible refine gate_callee (f := 12) rfl ?_); refine goesL_ (some 14) rfl rfl Tryd.func12 (by kernel_rfl) rfl #[.int .i64 a0, .int .i64 a1, .slice A2 l2.length c2] rfl (by (try simp only [List.map_toArray, List.map_cons, List.map_nil]); first | done | rfl | (simp only [List.length_drop, List.length_take]; rfl)) ?_; (with_reducible refine (damage_Whole.calls k a0 a1 _ _ l2 t207 none _ ?side1 ?side2 A4.out (Sent.sub (show ∀ c, c ∈ damage_Whole.L → c ∈ damage_Kind.L by decide) (Sent.below HS.out (by repeat (first | (with_reducible first | exact HB.out | apply below_alloc | apply pw_below_drewN | apply below_drew1) | exact HB.out))))).mono ?_); (case side1 => repeat (first | exact HR2.out | (with_reducible refine Kd.C_alloc ?_ _) | (with_reducible refine Kd.C_drewN ?_ _) | (with_reducible refine Kd.C_drew ?_))); (case side2 => exact HC2.out); rintro e w13 ⟨v209, rfl, ho0, hb⟩; refine ⟨_, rfl, ?_⟩; have n0_ := Aside0.mk (Kd.R_lower ho0 (below_size (by repeat (first | (with_reducible first | exact HB.out | apply below_alloc | apply pw_below_drewN | apply below_drew1) | exact HB.out)))); have n1_ := Aside0.mk (below_step (by repeat (first | (with_reducible first | exact HB.out | apply below_alloc | apply pw_below_drewN | apply below_drew1) | exact HB.out)) hb); clear HB; have HO210 := n0_; have HB := n1_; clear n0_ n1_; (try clear hb); (try clear hb2); (try clear hk); (try clear hi); (try clear ho0); (try simp only [errW_none, errW_some]); obtain ⟨Ao14, co14, eo14⟩ := Kd.R_slice HO210.out; subst eo14; have p212 : 0 ≤ (0 : Int) := (by omega); have q212 : 0 < (t207.length : Int) := of_decide_eq_true (by first | (with_reducible assumption) | assumption); obtain ⟨ad212, e212, hx212_0⟩ := Kd.at_int (Kd.R_reads' HO210.out).2.2 0 p212 q212; cases e212; have qi212 : (0 < t207.length) = True := eq_true (by omega); (try rw [show ((0 : Int)).toNat = 0 from rfl] at hx212_0); (try rw [Addr.add_zero'] at hx212_0); replace p212 := eq_true p212; replace q212 := eq_true q212))
              go_ret2
              exact ⟨by first | rfl | (simp [errW_none, errW_some] <;> rfl) | (simp [*, errW_none, errW_some] <;> rfl), by repeat (first | (with_reducible first | exact HB.out | apply below_alloc | apply pw_below_drewN | apply below_drew1) | exact HB.out)⟩
          · rw [if_neg c9] at H
            exact absurd H (by simp)
        · rw [if_neg c8] at H
          have c8b0 : ((t207.length : Int) == 1) = false := beq_eq_false_iff_ne.mpr c8
          have c8b1 : ((t207.length : Int) != 1) = true := bne_iff_ne.mpr c8
          simp only [Option.some.injEq, Prod.mk.injEq] at H
          obtain ⟨rfl, rfl⟩ := H
          go_enter Tryd.func14, Tryd.ntmps14
          go_wp2_with (first | ((with_reducible refine gate_callee (f := 12) rfl ?_); refine goesL_ (some 14) rfl rfl Tryd.func12 (by kernel_rfl) rfl #[.int .i64 a0, .int .i64 a1, .slice A2 l2.length c2] rfl (by (try simp only [List.map_toArray, List.map_cons, List.map_nil]); first | done | rfl | (simp only [List.length_drop, List.length_take]; rfl)) ?_; (with_reducible refine (damage_Whole.calls k a0 a1 _ _ l2 t207 none _ ?side1 ?side2 A4.out (Sent.sub (show ∀ c, c ∈ damage_Whole.L → c ∈ damage_Kind.L by decide) (Sent.below HS.out (by repeat (first | (with_reducible first | exact HB.out | apply below_alloc | apply pw_below_drewN | apply below_drew1) | exact HB.out))))).mono ?_); (case side1 => repeat (first | exact HR2.out | (with_reducible refine Kd.C_alloc ?_ _) | (with_reducible refine Kd.C_drewN ?_ _) | (with_reducible refine Kd.C_drew ?_))); (case side2 => exact HC2.out); rintro e w15 ⟨v209, rfl, ho0, hb⟩; refine ⟨_, rfl, ?_⟩; have n0_ := Aside0.mk (Kd.R_lower ho0 (below_size (by repeat (first | (with_reducible first | exact HB.out | apply below_alloc | apply pw_below_drewN | apply below_drew1) | exact HB.out)))); have n1_ := Aside0.mk (below_step (by repeat (first | (with_reducible first | exact HB.out | apply below_alloc | apply pw_below_drewN | apply below_drew1) | exact HB.out)) hb); clear HB; have HO210 := n0_; have HB := n1_; clear n0_ n1_; (try clear hb); (try clear hb2); (try clear hk); (try clear hi); (try clear ho0); (try simp only [errW_none, errW_some]); obtain ⟨Ao16, co16, eo16⟩ := Kd.R_slice HO210.out; subst eo16))
          go_ret2
          exact ⟨by first | rfl | (simp [errW_none, errW_some] <;> rfl) | (simp [*, errW_none, errW_some] <;> rfl), by repeat (first | (with_reducible first | exact HB.out | apply below_alloc | apply pw_below_drewN | apply below_drew1) | exact HB.out)⟩
      · rw [if_neg c7] at H
        have c7b0 : ((l2.length : Int) == 2) = false := beq_eq_false_iff_ne.mpr c7
        have c7b1 : ((l2.length : Int) != 2) = true := bne_iff_ne.mpr c7
        simp only [Option.some.injEq, Prod.mk.injEq] at H
        obtain ⟨rfl, rfl⟩ := H
        go_enter Tryd.func14, Tryd.ntmps14
        go_wp2_with (first | ((with_reducible refine gate_callee (f := 12) rfl ?_); refine goesL_ (some 14) rfl rfl Tryd.func12 (by kernel_rfl) rfl #[.int .i64 a0, .int .i64 a1, .slice A2 l2.length c2] rfl (by (try simp only [List.map_toArray, List.map_cons, List.map_nil]); first | done | rfl | (simp only [List.length_drop, List.length_take]; rfl)) ?_; (with_reducible refine (damage_Whole.calls k a0 a1 _ _ l2 t207 none _ ?side1 ?side2 A4.out (Sent.sub (show ∀ c, c ∈ damage_Whole.L → c ∈ damage_Kind.L by decide) (Sent.below HS.out (by repeat (first | (with_reducible first | exact HB.out | apply below_alloc | apply pw_below_drewN | apply below_drew1) | exact HB.out))))).mono ?_); (case side1 => repeat (first | exact HR2.out | (with_reducible refine Kd.C_alloc ?_ _) | (with_reducible refine Kd.C_drewN ?_ _) | (with_reducible refine Kd.C_drew ?_))); (case side2 => exact HC2.out); rintro e w17 ⟨v209, rfl, ho0, hb⟩; refine ⟨_, rfl, ?_⟩; have n0_ := Aside0.mk (Kd.R_lower ho0 (below_size (by repeat (first | (with_reducible first | exact HB.out | apply below_alloc | apply pw_below_drewN | apply below_drew1) | exact HB.out)))); have n1_ := Aside0.mk (below_step (by repeat (first | (with_reducible first | exact HB.out | apply below_alloc | apply pw_below_drewN | apply below_drew1) | exact HB.out)) hb); clear HB; have HO210 := n0_; have HB := n1_; clear n0_ n1_; (try clear hb); (try clear hb2); (try clear hk); (try clear hi); (try clear ho0); (try simp only [errW_none, errW_some])))
        go_ret2
        exact ⟨by first | rfl | (simp [errW_none, errW_some] <;> rfl) | (simp [*, errW_none, errW_some] <;> rfl), by repeat (first | (with_reducible first | exact HB.out | apply below_alloc | apply pw_below_drewN | apply below_drew1) | exact HB.out)⟩
  · have H1 : (some (0, some q211)) = some (r1, r2) := by rw [if_neg (show ¬ (some q211).isNone = true by simp)] at H; exact H
    clear H
    have H := H1
    clear H1
    try simp only [errW_none, errW_some]
    simp only [Option.some.injEq, Prod.mk.injEq] at H
    obtain ⟨rfl, rfl⟩ := H
    go_enter Tryd.func14, Tryd.ntmps14
    go_wp2_with (first | ((with_reducible refine gate_callee (f := 12) rfl ?_); refine goesL_ (some 14) rfl rfl Tryd.func12 (by kernel_rfl) rfl #[.int .i64 a0, .int .i64 a1, .slice A2 l2.length c2] rfl (by (try simp only [List.map_toArray, List.map_cons, List.map_nil]); first | done | rfl | (simp only [List.length_drop, List.length_take]; rfl)) ?_; (with_reducible refine (damage_Whole.calls k a0 a1 _ _ l2 t207 (some q211) _ ?side1 ?side2 A4.out (Sent.sub (show ∀ c, c ∈ damage_Whole.L → c ∈ damage_Kind.L by decide) (Sent.below HS.out (by repeat (first | (with_reducible first | exact HB.out | apply below_alloc | apply pw_below_drewN | apply below_drew1) | exact HB.out))))).mono ?_); (case side1 => repeat (first | exact HR2.out | (with_reducible refine Kd.C_alloc ?_ _) | (with_reducible refine Kd.C_drewN ?_ _) | (with_reducible refine Kd.C_drew ?_))); (case side2 => exact HC2.out); rintro e w18 ⟨v209, rfl, ho0, hb⟩; refine ⟨_, rfl, ?_⟩; have n0_ := Aside0.mk (Kd.R_lower ho0 (below_size (by repeat (first | (with_reducible first | exact HB.out | apply below_alloc | apply pw_below_drewN | apply below_drew1) | exact HB.out)))); have n1_ := Aside0.mk (below_step (by repeat (first | (with_reducible first | exact HB.out | apply below_alloc | apply pw_below_drewN | apply below_drew1) | exact HB.out)) hb); clear HB; have HO210 := n0_; have HB := n1_; clear n0_ n1_; (try clear hb); (try clear hb2); (try clear hk); (try clear hi); (try clear ho0); (try simp only [errW_none, errW_some])))
    go_ret2
    exact ⟨by first | rfl | (simp [errW_none, errW_some] <;> rfl) | (simp [*, errW_none, errW_some] <;> rfl), by repeat (first | (with_reducible first | exact HB.out | apply below_alloc | apply pw_below_drewN | apply below_drew1) | exact HB.out)⟩

end Go.Proofs.YtndnedjclbigiaaDoor.F

namespace Go.Proofs.YtndnedjclbigiaaDoor.F
open Go.RowKit Go.Proofs.YtndnedjclbigiaaDoorW.PrintWords Go.Proofs.YtndnedjclbigiaaDoorW.PrintLast Go.Proofs.YtndnedjclbigiaaDoorW.PrintMore
attribute [local go_sem] max2_int min2_int max_two min_two max_three min_three max_four min_four   -- for this text's walks alone
set_option linter.unusedVariables false
set_option linter.unusedSimpArgs false
set_option linter.unusedSectionVars false
open Go.Proofs.YtndnedjclbigiaaDoor
variable [Errs]

/-! ### half_check: function 33 -/
def half_check.L : List Int := [1, 4]
def half_check.f (a0 : Int) (a1 : Int) (a2 : Int) : Option (Option Int) := (base_Check.f a0 a1).bind fun t349 => (if t349.isNone = true then (if a2 < 0 then (some (some 4)) else (if a2 ≥ (wrap64 (2 * (wrap64 (a0 + a1)))) then (some (some 4)) else (some none))) else (some (some (t349.getD 0))))
set_option maxHeartbeats 8000000 in
set_option maxRecDepth 100000 in
theorem half_check.calls (a0 : Int) (a1 : Int) (a2 : Int) (r : Option Int) (w : World) (h : half_check.f a0 a1 a2 = some r) (hS : Sent half_check.L w) :
    Calls Tryd.prog 33 #[.int .i64 a0, .int .i64 a1, .int .i64 a2] w fun e w' => e = .returned (errW r) ∧ Drawn0 w w' := by
  have hu30 := Tryd.underlying30
  have HS := Aside0.mk hS
  have hgl4 := Sent.cell0 hS 4 2 rfl (by decide)
  simp only [errW_some] at hgl4
  clear hS
  have H : ((base_Check.f a0 a1).bind fun t349 => (if t349.isNone = true then (if a2 < 0 then (some (some 4)) else (if a2 ≥ (wrap64 (2 * (wrap64 (a0 + a1)))) then (some (some 4)) else (some none))) else (some (some (t349.getD 0))))) = some r := h
  clear h
  replace H := Option.bind_eq_some_iff.mp H
  obtain ⟨t349, A40, H⟩ := H
  replace H : (if t349.isNone = true then (if a2 < 0 then (some (some 4)) else (if a2 ≥ (wrap64 (2 * (wrap64 (a0 + a1)))) then (some (some 4)) else (some none))) else (some (some (t349.getD 0)))) = some r := H
  have A4 := Aside0.mk A40
  clear A40
  rcases t349 with _ | q350
  · have H1 : (if a2 < 0 then (some (some 4)) else (if a2 ≥ (wrap64 (2 * (wrap64 (a0 + a1)))) then (some (some 4)) else (some none))) = some r := by rw [if_pos (show (none : Option Int).isNone = true by rfl)] at H; exact H
    clear H
    have H := H1
    clear H1
    try simp only [errW_none, errW_some]
    by_cases c5 : a2 < 0
    · rw [if_pos c5] at H
      have c5b0 : decide (a2 < 0) = true := decide_eq_true c5
      clear c5
      obtain rfl := Option.some.inj H
      go_enter Tryd.func33, Tryd.ntmps33
      go_wp2_with (first | ((with_reducible refine gate_callee (f := 30) rfl ?_); refine goesL_ (some 10) rfl rfl Tryd.func30 (by kernel_rfl) rfl #[.int .i64 a0, .int .i64 a1] rfl (by (try simp only [List.map_toArray, List.map_cons, List.map_nil]); first | done | rfl | (simp only [List.length_drop, List.length_take]; rfl)) ?_; (with_reducible refine (base_Check.calls a0 a1 none _ A4.out (Sent.sub (show ∀ c, c ∈ base_Check.L → c ∈ half_check.L by decide) (by repeat (first | (with_reducible first | exact HS.out | apply Sent.drewN | apply Sent.drew) | exact HS.out)))).mono ?_); rintro e w' ⟨rfl, ⟨nd, rfl⟩⟩; refine ⟨_, rfl, ?_⟩; (try simp only [errW_none, errW_some])))
      go_ret
      exact ⟨by first | rfl | (simp; done) | (simp [*]; done), by repeat (first | exact Drawn0.refl _ | apply Drawn0.step)⟩
    · rw [if_neg c5] at H
      have c5b0 : decide (a2 < 0) = false := decide_eq_false c5
      clear c5
      by_cases c6 : a2 ≥ (wrap64 (2 * (wrap64 (a0 + a1))))
      · rw [if_pos c6] at H
        have c6b0 : decide ((wrap64 (2 * (wrap64 (a0 + a1)))) ≤ a2) = true := decide_eq_true c6
        clear c6
        obtain rfl := Option.some.inj H
        go_enter Tryd.func33, Tryd.ntmps33
        go_wp2_with (first | ((with_reducible refine gate_callee (f := 30) rfl ?_); refine goesL_ (some 10) rfl rfl Tryd.func30 (by kernel_rfl) rfl #[.int .i64 a0, .int .i64 a1] rfl (by (try simp only [List.map_toArray, List.map_cons, List.map_nil]); first | done | rfl | (simp only [List.length_drop, List.length_take]; rfl)) ?_; (with_reducible refine (base_Check.calls a0 a1 none _ A4.out (Sent.sub (show ∀ c, c ∈ base_Check.L → c ∈ half_check.L by decide) (by repeat (first | (with_reducible first | exact HS.out | apply Sent.drewN | apply Sent.drew) | exact HS.out)))).mono ?_); rintro e w' ⟨rfl, ⟨nd, rfl⟩⟩; refine ⟨_, rfl, ?_⟩; (try simp only [errW_none, errW_some])))
        go_ret
        exact ⟨by first | rfl | (simp; done) | (simp [*]; done), by repeat (first | exact Drawn0.refl _ | apply Drawn0.step)⟩
      · rw [if_neg c6] at H
        have c6b0 : decide ((wrap64 (2 * (wrap64 (a0 + a1)))) ≤ a2) = false := decide_eq_false c6
        clear c6
        obtain rfl := Option.some.inj H
        go_enter Tryd.func33, Tryd.ntmps33
        go_wp2_with (first | ((with_reducible refine gate_callee (f := 30) rfl ?_); refine goesL_ (some 10) rfl rfl Tryd.func30 (by kernel_rfl) rfl #[.int .i64 a0, .int .i64 a1] rfl (by (try simp only [List.map_toArray, List.map_cons, List.map_nil]); first | done | rfl | (simp only [List.length_drop, List.length_take]; rfl)) ?_; (with_reducible refine (base_Check.calls a0 a1 none _ A4.out (Sent.sub (show ∀ c, c ∈ base_Check.L → c ∈ half_check.L by decide) (by repeat (first | (with_reducible first | exact HS.out | apply Sent.drewN | apply Sent.drew) | exact HS.out)))).mono ?_); rintro e w' ⟨rfl, ⟨nd, rfl⟩⟩; refine ⟨_, rfl, ?_⟩; (try simp only [errW_none, errW_some])))
        go_ret
        exact ⟨by first | rfl | (simp; done) | (simp [*]; done), by repeat (first | exact Drawn0.refl _ | apply Drawn0.step)⟩
  · have H1 : (some (some q350)) = some r := by rw [if_neg (show ¬ (some q350).isNone = true by simp)] at H; exact H
    clear H
    have H := H1
    clear H1
    try simp only [errW_none, errW_some]
    obtain rfl := Option.some.inj H
    go_enter Tryd.func33, Tryd.ntmps33
    go_wp2_with (first | ((with_reducible refine gate_callee (f := 30) rfl ?_); refine goesL_ (some 10) rfl rfl Tryd.func30 (by kernel_rfl) rfl #[.int .i64 a0, .int .i64 a1] rfl (by (try simp only [List.map_toArray, List.map_cons, List.map_nil]); first | done | rfl | (simp only [List.length_drop, List.length_take]; rfl)) ?_; (with_reducible refine (base_Check.calls a0 a1 (some q350) _ A4.out (Sent.sub (show ∀ c, c ∈ base_Check.L → c ∈ half_check.L by decide) (by repeat (first | (with_reducible first | exact HS.out | apply Sent.drewN | apply Sent.drew) | exact HS.out)))).mono ?_); rintro e w' ⟨rfl, ⟨nd, rfl⟩⟩; refine ⟨_, rfl, ?_⟩; (try simp only [errW_none, errW_some])))
    go_ret
    exact ⟨by first | rfl | (simp; done) | (simp [*]; done), by repeat (first | exact Drawn0.refl _ | apply Drawn0.step)⟩

end Go.Proofs.YtndnedjclbigiaaDoor.F

namespace Go.Proofs.YtndnedjclbigiaaDoor
open Go.RowKit Go.Proofs.YtndnedjclbigiaaDoorW.PrintWords Go.Proofs.YtndnedjclbigiaaDoorW.PrintLast Go.Proofs.YtndnedjclbigiaaDoor
set_option linter.unusedSectionVars false
set_option linter.unusedSimpArgs false
set_option linter.unusedVariables false
variable [Errs]

/-! strconv.Itoa below 100: the shelf's road without the table. -/
def strconv_Itoa.f (a0 : Int) : Option ByteArray := if 0 ≤ a0 then (if a0 < 100 then some ⟨(Lib.decDigits a0.toNat).toArray⟩ else none) else none
omit [Errs] in
theorem strconv_Itoa.calls (a0 : Int) (r : ByteArray) (w : World) (h : strconv_Itoa.f a0 = some r) :
    Calls Tryd.prog 34 #[.int .i64 a0] w fun e w' => e = .returned (.string r) ∧ Drawn0 w w' := by
  unfold strconv_Itoa.f at h
  by_cases h0 : 0 ≤ a0
  · rw [if_pos h0] at h
    by_cases h1 : a0 < 100
    · rw [if_pos h1] at h
      obtain rfl := Option.some.inj h
      have e : ((a0.toNat : Nat) : Int) = a0 := Int.toNat_of_nonneg h0
      have c := Tryd.strconv_Itoa_small a0.toNat (by omega) w
      rw [e] at c
      refine c.mono ?_
      rintro e w' ⟨rfl, rfl⟩
      exact ⟨rfl, Drawn0.refl _⟩
    · rw [if_neg h1] at h; cases h
  · rw [if_neg h0] at h; cases h
end Go.Proofs.YtndnedjclbigiaaDoor

namespace Go.Proofs.YtndnedjclbigiaaDoor.F
open Go.RowKit Go.Proofs.YtndnedjclbigiaaDoorW.PrintWords Go.Proofs.YtndnedjclbigiaaDoorW.PrintLast Go.Proofs.YtndnedjclbigiaaDoorW.PrintMore
attribute [local go_sem] max2_int min2_int max_two min_two max_three min_three max_four min_four   -- for this text's walks alone
set_option linter.unusedVariables false
set_option linter.unusedSimpArgs false
set_option linter.unusedSectionVars false
open Go.Proofs.YtndnedjclbigiaaDoor
variable [Errs]

/-! ### half_Name: function 21 -/
def half_Name.L : List Int := [1, 4]
def half_Name.f (a0 : Int) (a1 : Int) (a2 : Int) : Option (ByteArray × Option Int) := (half_check.f a0 a1 a2).bind fun t351 => (if t351.isNone = true then ((half_at.f a2).bind fun bt353 => (if 0 ≤ bt353.2 then (if bt353.2 < 2 then (if bt353.1 < a0 then ((strconv_Itoa.f bt353.1).bind fun t356 => (if 1 + t356.size ≤ 9223372036854775807 then (if 1 + t356.size + ((Utf8.encode (bt (⟨#[97, 98]⟩ : ByteArray) bt353.2)).size) ≤ 9223372036854775807 then (some (((⟨#[100]⟩ : ByteArray) ++ t356) ++ (Utf8.encode (bt (⟨#[97, 98]⟩ : ByteArray) bt353.2)), none)) else (none)) else (none))) else ((strconv_Itoa.f (wrap64 (bt353.1 - a0))).bind fun t357 => (if 1 + t357.size ≤ 9223372036854775807 then (if 1 + t357.size + ((Utf8.encode (bt (⟨#[97, 98]⟩ : ByteArray) bt353.2)).size) ≤ 9223372036854775807 then (some (((⟨#[112]⟩ : ByteArray) ++ t357) ++ (Utf8.encode (bt (⟨#[97, 98]⟩ : ByteArray) bt353.2)), none)) else (none)) else (none)))) else (none)) else (none))) else (some ((⟨#[]⟩ : ByteArray), some (t351.getD 0))))
set_option maxHeartbeats 8000000 in
set_option maxRecDepth 100000 in
theorem half_Name.calls (a0 : Int) (a1 : Int) (a2 : Int) (r1 : ByteArray) (r2 : Option Int) (w : World) (h : half_Name.f a0 a1 a2 = some (r1, r2)) (hS : Sent half_Name.L w) :
    Calls Tryd.prog 21 #[.int .i64 a0, .int .i64 a1, .int .i64 a2] w fun e w' => e = .returned (.tuple #[.string r1, errW r2]) ∧ Below w.heap.size w w' := by
  have hu58 := Tryd.underlying58
  have hu30 := Tryd.underlying30
  have HB := Aside0.mk (Below.refl w.heap.size w)
  have HS := Aside0.mk hS
  clear hS
  have H : ((half_check.f a0 a1 a2).bind fun t351 => (if t351.isNone = true then ((half_at.f a2).bind fun bt353 => (if 0 ≤ bt353.2 then (if bt353.2 < 2 then (if bt353.1 < a0 then ((strconv_Itoa.f bt353.1).bind fun t356 => (if 1 + t356.size ≤ 9223372036854775807 then (if 1 + t356.size + ((Utf8.encode (bt (⟨#[97, 98]⟩ : ByteArray) bt353.2)).size) ≤ 9223372036854775807 then (some (((⟨#[100]⟩ : ByteArray) ++ t356) ++ (Utf8.encode (bt (⟨#[97, 98]⟩ : ByteArray) bt353.2)), none)) else (none)) else (none))) else ((strconv_Itoa.f (wrap64 (bt353.1 - a0))).bind fun t357 => (if 1 + t357.size ≤ 9223372036854775807 then (if 1 + t357.size + ((Utf8.encode (bt (⟨#[97, 98]⟩ : ByteArray) bt353.2)).size) ≤ 9223372036854775807 then (some (((⟨#[112]⟩ : ByteArray) ++ t357) ++ (Utf8.encode (bt (⟨#[97, 98]⟩ : ByteArray) bt353.2)), none)) else (none)) else (none)))) else (none)) else (none))) else (some ((⟨#[]⟩ : ByteArray), some (t351.getD 0))))) = some (r1, r2) := h
  clear h
  replace H := Option.bind_eq_some_iff.mp H
  obtain ⟨t351, A40, H⟩ := H
  replace H : (if t351.isNone = true then ((half_at.f a2).bind fun bt353 => (if 0 ≤ bt353.2 then (if bt353.2 < 2 then (if bt353.1 < a0 then ((strconv_Itoa.f bt353.1).bind fun t356 => (if 1 + t356.size ≤ 9223372036854775807 then (if 1 + t356.size + ((Utf8.encode (bt (⟨#[97, 98]⟩ : ByteArray) bt353.2)).size) ≤ 9223372036854775807 then (some (((⟨#[100]⟩ : ByteArray) ++ t356) ++ (Utf8.encode (bt (⟨#[97, 98]⟩ : ByteArray) bt353.2)), none)) else (none)) else (none))) else ((strconv_Itoa.f (wrap64 (bt353.1 - a0))).bind fun t357 => (if 1 + t357.size ≤ 9223372036854775807 then (if 1 + t357.size + ((Utf8.encode (bt (⟨#[97, 98]⟩ : ByteArray) bt353.2)).size) ≤ 9223372036854775807 then (some (((⟨#[112]⟩ : ByteArray) ++ t357) ++ (Utf8.encode (bt (⟨#[97, 98]⟩ : ByteArray) bt353.2)), none)) else (none)) else (none)))) else (none)) else (none))) else (some ((⟨#[]⟩ : ByteArray), some (t351.getD 0)))) = some (r1, r2) := H
  have A4 := Aside0.mk A40
  clear A40
  rcases t351 with _ | q352
  · have H1 : ((half_at.f a2).bind fun bt353 => (if 0 ≤ bt353.2 then (if bt353.2 < 2 then (if bt353.1 < a0 then ((strconv_Itoa.f bt353.1).bind fun t356 => (if 1 + t356.size ≤ 9223372036854775807 then (if 1 + t356.size + ((Utf8.encode (bt (⟨#[97, 98]⟩ : ByteArray) bt353.2)).size) ≤ 9223372036854775807 then (some (((⟨#[100]⟩ : ByteArray) ++ t356) ++ (Utf8.encode (bt (⟨#[97, 98]⟩ : ByteArray) bt353.2)), none)) else (none)) else (none))) else ((strconv_Itoa.f (wrap64 (bt353.1 - a0))).bind fun t357 => (if 1 + t357.size ≤ 9223372036854775807 then (if 1 + t357.size + ((Utf8.encode (bt (⟨#[97, 98]⟩ : ByteArray) bt353.2)).size) ≤ 9223372036854775807 then (some (((⟨#[112]⟩ : ByteArray) ++ t357) ++ (Utf8.encode (bt (⟨#[97, 98]⟩ : ByteArray) bt353.2)), none)) else (none)) else (none)))) else (none)) else (none))) = some (r1, r2) := by rw [if_pos (show (none : Option Int).isNone = true by rfl)] at H; exact H
    clear H
    have H := H1
    clear H1
    try simp only [errW_none, errW_some]
    replace H := Option.bind_eq_some_iff.mp H
    obtain ⟨⟨t353, t354⟩, A50, H⟩ := H
    replace H : (if 0 ≤ t354 then (if t354 < 2 then (if t353 < a0 then ((strconv_Itoa.f t353).bind fun t356 => (if 1 + t356.size ≤ 9223372036854775807 then (if 1 + t356.size + ((Utf8.encode (bt (⟨#[97, 98]⟩ : ByteArray) t354)).size) ≤ 9223372036854775807 then (some (((⟨#[100]⟩ : ByteArray) ++ t356) ++ (Utf8.encode (bt (⟨#[97, 98]⟩ : ByteArray) t354)), none)) else (none)) else (none))) else ((strconv_Itoa.f (wrap64 (t353 - a0))).bind fun t357 => (if 1 + t357.size ≤ 9223372036854775807 then (if 1 + t357.size + ((Utf8.encode (bt (⟨#[97, 98]⟩ : ByteArray) t354)).size) ≤ 9223372036854775807 then (some (((⟨#[112]⟩ : ByteArray) ++ t357) ++ (Utf8.encode (bt (⟨#[97, 98]⟩ : ByteArray) t354)), none)) else (none)) else (none)))) else (none)) else (none)) = some (r1, r2) := H
    have A5 := Aside0.mk A50
    clear A50
    by_cases c6 : 0 ≤ t354
    · rw [if_pos c6] at H
      have c6b0 : decide (0 ≤ t354) = true := decide_eq_true c6
      clear c6
      by_cases c7 : t354 < 2
      · rw [if_pos c7] at H
        have c7b0 : decide (t354 < 2) = true := decide_eq_true c7
        clear c7
        by_cases c9 : t353 < a0
        · rw [if_pos c9] at H
          have c9b0 : decide (t353 < a0) = true := decide_eq_true c9
          clear c9
          replace H := Option.bind_eq_some_iff.mp H
          obtain ⟨t356, A100, H⟩ := H
          replace H : (if 1 + t356.size ≤ 9223372036854775807 then (if 1 + t356.size + ((Utf8.encode (bt (⟨#[97, 98]⟩ : ByteArray) t354)).size) ≤ 9223372036854775807 then (some (((⟨#[100]⟩ : ByteArray) ++ t356) ++ (Utf8.encode (bt (⟨#[97, 98]⟩ : ByteArray) t354)), none)) else (none)) else (none)) = some (r1, r2) := H
          have A10 := Aside0.mk A100
          clear A100
          by_cases c11 : 1 + t356.size ≤ 9223372036854775807
          · rw [if_pos c11] at H
            have c11b0 := eq_true c11
            have c11b1 : decide (1 + t356.size ≤ 9223372036854775807) = true := decide_eq_true c11
            try have c11b2 : (9223372036854775807 < 1 + t356.size) = False := eq_false (Nat.not_lt.2 c11)
            by_cases c12 : 1 + t356.size + ((Utf8.encode (bt (⟨#[97, 98]⟩ : ByteArray) t354)).size) ≤ 9223372036854775807
            · rw [if_pos c12] at H
              have c12b0 := eq_true c12
              have c12b1 : decide (1 + t356.size + ((Utf8.encode (bt (⟨#[97, 98]⟩ : ByteArray) t354)).size) ≤ 9223372036854775807) = true := decide_eq_true c12
              try have c12b2 : (9223372036854775807 < 1 + t356.size + ((Utf8.encode (bt (⟨#[97, 98]⟩ : ByteArray) t354)).size)) = False := eq_false (Nat.not_lt.2 c12)
              simp only [Option.some.injEq, Prod.mk.injEq] at H
              obtain ⟨rfl, rfl⟩ := H
              go_enter Tryd.func21, Tryd.ntmps21
              go_wp2_with (first | ((with_reducible refine gate_callee (f := 33) rfl ?_); refine goesL_ (some 14) rfl rfl Tryd.func33 (by kernel_rfl) rfl #[.int .i64 a0, .int .i64 a1, .int .i64 a2] rfl (by (try simp only [List.map_toArray, List.map_cons, List.map_nil]); first | done | rfl | (simp only [List.length_drop, List.length_take]; rfl)) ?_; (with_reducible refine (half_check.calls a0 a1 a2 none _ A4.out (Sent.sub (show ∀ c, c ∈ half_check.L → c ∈ half_Name.L by decide) (Sent.below HS.out (by repeat (first | (with_reducible first | exact HB.out | apply below_alloc | apply pw_below_drewN | apply below_drew1) | exact HB.out))))).mono ?_); rintro e w' ⟨rfl, ⟨nd, rfl⟩⟩; refine ⟨_, rfl, ?_⟩; (try simp only [errW_none, errW_some])) | ((with_reducible refine gate_callee (f := 25) rfl ?_); refine goesL_ (some 19) rfl rfl Tryd.func25 (by kernel_rfl) rfl #[.int .i64 a2] rfl (by (try simp only [List.map_toArray, List.map_cons, List.map_nil]); first | done | rfl | (simp only [List.length_drop, List.length_take]; rfl)) ?_; (with_reducible refine (half_at.calls a2 t353 t354 _ A5.out).mono ?_); rintro e w13 ⟨rfl, hb⟩; refine ⟨_, rfl, ?_⟩; have n0_ := Aside0.mk (below_step (by repeat (first | (with_reducible first | exact HB.out | apply below_alloc | apply pw_below_drewN | apply below_drew1) | exact HB.out)) hb); clear HB; have HB := n0_; clear n0_; (try clear hb); (try clear hb2); (try clear hk); (try clear hi)) | ((with_reducible refine gate_dst (N := 9) rfl ?_); refine box_event ?hg (N := 9) ?hd (cs := #[.int .i64 0, .int .i64 0]) (t := 58) ?hr ?_; (case hd => rfl); (case hg => rfl); (case hr => first | (go_simp; done) | (go_simp; rfl)); intro gb355 hg w14 hbox hb; have n0_ := Aside0.mk (below_step (by repeat (first | (with_reducible first | exact HB.out | apply below_alloc | apply pw_below_drewN | apply below_drew1) | exact HB.out)) hb); have n1_ := Aside0.mk (hbox); have n2_ := Aside0.mk ((by rw [hg]; exact (below_size (by repeat (first | (with_reducible first | exact HB.out | apply below_alloc | apply pw_below_drewN | apply below_drew1) | exact HB.out))) : w.heap.size ≤ gb355)); have n3_ := Aside0.mk ((by rw [hg]; exact (below_size (by repeat (first | (with_reducible first | exact HB.out | apply below_alloc | apply pw_below_drewN | apply below_drew1) | exact HB.out))) : w.heap.size ≤ gb355)); clear HB; have HB := n0_; have BK355 := n1_; have GW355 := n2_; have GE355 := n3_; clear n0_ n1_ n2_ n3_; clear hb hbox hg; have hcz15_0 : w14.cell? ⟨gb355, 0, none⟩ = some (.int .i64 0) := (blk_cell BK355.out 0).trans rfl; have hcz15_1 : w14.cell? ⟨gb355, 1, none⟩ = some (.int .i64 0) := (blk_cell BK355.out 1).trans rfl; have hfz15_0 := blk_frozen BK355.out 0; have hfz15_1 := blk_frozen BK355.out 1; have p8 : 0 ≤ (t354 : Int) := of_decide_eq_true (by first | (with_reducible assumption) | assumption); have q8 : t354 < (2 : Int) := of_decide_eq_true (by first | (with_reducible assumption) | assumption); have hx8 := bt_at (⟨#[97, 98]⟩ : ByteArray) t354; replace p8 := eq_true p8; replace q8 := eq_true q8) | ((with_reducible refine gate_callee (f := 34) rfl ?_); refine goesL_ (some 30) rfl rfl Tryd.func34 (by kernel_rfl) rfl #[.int .i64 t353] rfl (by (try simp only [List.map_toArray, List.map_cons, List.map_nil]); first | done | rfl | (simp only [List.length_drop, List.length_take]; rfl)) ?_; (with_reducible refine (strconv_Itoa.calls t353 t356 _ A10.out).mono ?_); rintro e w' ⟨rfl, ⟨nd, rfl⟩⟩; refine ⟨_, rfl, ?_⟩))
              go_ret2
              exact ⟨by first | rfl | (simp [errW_none, errW_some] <;> rfl) | (simp [*, errW_none, errW_some] <;> rfl), by repeat (first | (with_reducible first | exact HB.out | apply below_alloc | apply pw_below_drewN | apply below_drew1 | refine below_set ?_ GE355.out) | exact HB.out)⟩
            · rw [if_neg c12] at H
              exact absurd H (by simp)
          · rw [if_neg c11] at H
            exact absurd H (by simp)
        · rw [if_neg c9] at H
          have c9b0 : decide (t353 < a0) = false := decide_eq_false c9
          clear c9
          replace H := Option.bind_eq_some_iff.mp H
          obtain ⟨t357, A160, H⟩ := H
          replace H : (if 1 + t357.size ≤ 9223372036854775807 then (if 1 + t357.size + ((Utf8.encode (bt (⟨#[97, 98]⟩ : ByteArray) t354)).size) ≤ 9223372036854775807 then (some (((⟨#[112]⟩ : ByteArray) ++ t357) ++ (Utf8.encode (bt (⟨#[97, 98]⟩ : ByteArray) t354)), none)) else (none)) else (none)) = some (r1, r2) := H
          have A16 := Aside0.mk A160
          clear A160
          by_cases c17 : 1 + t357.size ≤ 9223372036854775807
          · rw [if_pos c17] at H
            have c17b0 := eq_true c17
            have c17b1 : decide (1 + t357.size ≤ 9223372036854775807) = true := decide_eq_true c17
            try have c17b2 : (9223372036854775807 < 1 + t357.size) = False := eq_false (Nat.not_lt.2 c17)
            by_cases c18 : 1 + t357.size + ((Utf8.encode (bt (⟨#[97, 98]⟩ : ByteArray) t354)).size) ≤ 9223372036854775807
            · rw [if_pos c18] at H
              have c18b0 := eq_true c18
              have c18b1 : decide (1 + t357.size + ((Utf8.encode (bt (⟨#[97, 98]⟩ : ByteArray) t354)).size) ≤ 9223372036854775807) = true := decide_eq_true c18
              try have c18b2 : (9223372036854775807 < 1 + t357.size + ((Utf8.encode (bt (⟨#[97, 98]⟩ : ByteArray) t354)).size)) = False := eq_false (Nat.not_lt.2 c18)
              simp only [Option.some.injEq, Prod.mk.injEq] at H
              obtain ⟨rfl, rfl⟩ := H
              go_enter Tryd.func21, Tryd.ntmps21
              go_wp2_with (first | ((with_reducible refine gate_callee (f := 33) rfl ?_); refine goesL_ (some 14) rfl rfl Tryd.func33 (by kernel_rfl) rfl #[.int .i64 a0, .int .i64 a1, .int .i64 a2] rfl (by (try simp only [List.map_toArray, List.map_cons, List.map_nil]); first | done | rfl | (simp only [List.length_drop, List.length_take]; rfl)) ?_; (with_reducible refine (half_check.calls a0 a1 a2 none _ A4.out (Sent.sub (show ∀ c, c ∈ half_check.L → c ∈ half_Name.L by decide) (Sent.below HS.out (by repeat (first | (with_reducible first | exact HB.out | apply below_alloc | apply pw_below_drewN | apply below_drew1) | exact HB.out))))).mono ?_); rintro e w' ⟨rfl, ⟨nd, rfl⟩⟩; refine ⟨_, rfl, ?_⟩; (try simp only [errW_none, errW_some])) | ((with_reducible refine gate_callee (f := 25) rfl ?_); refine goesL_ (some 19) rfl rfl Tryd.func25 (by kernel_rfl) rfl #[.int .i64 a2] rfl (by (try simp only [List.map_toArray, List.map_cons, List.map_nil]); first | done | rfl | (simp only [List.length_drop, List.length_take]; rfl)) ?_; (with_reducible refine (half_at.calls a2 t353 t354 _ A5.out).mono ?_); rintro e w19 ⟨rfl, hb⟩; refine ⟨_, rfl, ?_⟩; have n0_ := Aside0.mk (below_step (by repeat (first | (with_reducible first | exact HB.out | apply below_alloc | apply pw_below_drewN | apply below_drew1) | exact HB.out)) hb); clear HB; have HB := n0_; clear n0_; (try clear hb); (try clear hb2); (try clear hk); (try clear hi)) | ((with_reducible refine gate_dst (N := 9) rfl ?_); refine box_event ?hg (N := 9) ?hd (cs := #[.int .i64 0, .int .i64 0]) (t := 58) ?hr ?_; (case hd => rfl); (case hg => rfl); (case hr => first | (go_simp; done) | (go_simp; rfl)); intro gb355 hg w20 hbox hb; have n0_ := Aside0.mk (below_step (by repeat (first | (with_reducible first | exact HB.out | apply below_alloc | apply pw_below_drewN | apply below_drew1) | exact HB.out)) hb); have n1_ := Aside0.mk (hbox); have n2_ := Aside0.mk ((by rw [hg]; exact (below_size (by repeat (first | (with_reducible first | exact HB.out | apply below_alloc | apply pw_below_drewN | apply below_drew1) | exact HB.out))) : w.heap.size ≤ gb355)); have n3_ := Aside0.mk ((by rw [hg]; exact (below_size (by repeat (first | (with_reducible first | exact HB.out | apply below_alloc | apply pw_below_drewN | apply below_drew1) | exact HB.out))) : w.heap.size ≤ gb355)); clear HB; have HB := n0_; have BK355 := n1_; have GW355 := n2_; have GE355 := n3_; clear n0_ n1_ n2_ n3_; clear hb hbox hg; have hcz21_0 : w20.cell? ⟨gb355, 0, none⟩ = some (.int .i64 0) := (blk_cell BK355.out 0).trans rfl; have hcz21_1 : w20.cell? ⟨gb355, 1, none⟩ = some (.int .i64 0) := (blk_cell BK355.out 1).trans rfl; have hfz21_0 := blk_frozen BK355.out 0; have hfz21_1 := blk_frozen BK355.out 1; have p8 : 0 ≤ (t354 : Int) := of_decide_eq_true (by first | (with_reducible assumption) | assumption); have q8 : t354 < (2 : Int) := of_decide_eq_true (by first | (with_reducible assumption) | assumption); have hx8 := bt_at (⟨#[97, 98]⟩ : ByteArray) t354; replace p8 := eq_true p8; replace q8 := eq_true q8) | ((with_reducible refine gate_callee (f := 34) rfl ?_); refine goesL_ (some 38) rfl rfl Tryd.func34 (by kernel_rfl) rfl #[.int .i64 (wrap64 (t353 - a0))] rfl (by (try simp only [List.map_toArray, List.map_cons, List.map_nil]); first | done | rfl | (simp only [List.length_drop, List.length_take]; rfl)) ?_; (with_reducible refine (strconv_Itoa.calls (wrap64 (t353 - a0)) t357 _ A16.out).mono ?_); rintro e w' ⟨rfl, ⟨nd, rfl⟩⟩; refine ⟨_, rfl, ?_⟩))
              go_ret2
              exact ⟨by first | rfl | (simp [errW_none, errW_some] <;> rfl) | (simp [*, errW_none, errW_some] <;> rfl), by repeat (first | (with_reducible first | exact HB.out | apply below_alloc | apply pw_below_drewN | apply below_drew1 | refine below_set ?_ GE355.out) | exact HB.out)⟩
            · rw [if_neg c18] at H
              exact absurd H (by simp)
          · rw [if_neg c17] at H
            exact absurd H (by simp)
      · rw [if_neg c7] at H
        exact absurd H (by simp)
    · rw [if_neg c6] at H
      exact absurd H (by simp)
  · have H1 : (some ((⟨#[]⟩ : ByteArray), some q352)) = some (r1, r2) := by rw [if_neg (show ¬ (some q352).isNone = true by simp)] at H; exact H
    clear H
    have H := H1
    clear H1
    try simp only [errW_none, errW_some]
    simp only [Option.some.injEq, Prod.mk.injEq] at H
    obtain ⟨rfl, rfl⟩ := H
    go_enter Tryd.func21, Tryd.ntmps21
    go_wp2_with (first | ((with_reducible refine gate_callee (f := 33) rfl ?_); refine goesL_ (some 14) rfl rfl Tryd.func33 (by kernel_rfl) rfl #[.int .i64 a0, .int .i64 a1, .int .i64 a2] rfl (by (try simp only [List.map_toArray, List.map_cons, List.map_nil]); first | done | rfl | (simp only [List.length_drop, List.length_take]; rfl)) ?_; (with_reducible refine (half_check.calls a0 a1 a2 (some q352) _ A4.out (Sent.sub (show ∀ c, c ∈ half_check.L → c ∈ half_Name.L by decide) (Sent.below HS.out (by repeat (first | (with_reducible first | exact HB.out | apply below_alloc | apply pw_below_drewN | apply below_drew1) | exact HB.out))))).mono ?_); rintro e w' ⟨rfl, ⟨nd, rfl⟩⟩; refine ⟨_, rfl, ?_⟩; (try simp only [errW_none, errW_some])))
    go_ret2
    exact ⟨by first | rfl | (simp [errW_none, errW_some] <;> rfl) | (simp [*, errW_none, errW_some] <;> rfl), by repeat (first | (with_reducible first | exact HB.out | apply below_alloc | apply pw_below_drewN | apply below_drew1) | exact HB.out)⟩

end Go.Proofs.YtndnedjclbigiaaDoor.F

namespace Go.Proofs.YtndnedjclbigiaaDoor
open Go.RowKit Go.Proofs.YtndnedjclbigiaaDoorW.PrintWords Go.Proofs.YtndnedjclbigiaaDoorW.PrintLast Go.Proofs.YtndnedjclbigiaaDoorW.PrintMore
open Go.Proofs.YtndnedjclbigiaaDoor.F
set_option linter.unusedVariables false
set_option linter.unusedSectionVars false
set_option linter.unusedSimpArgs false
variable [Errs]

def damage_Text.L : List Int := [1, 4]
/-- The names of halves; none where one has no name. -/
def damage_Text.names (a0 a1 : Int) : List Int → Option (List ByteArray)
  | [] => some []
  | h :: t => (half_Name.f a0 a1 h).bind fun p => match p.2 with
    | none => (damage_Text.names a0 a1 t).map (p.1 :: ·)
    | some _ => none
def joined (xs : List ByteArray) : List UInt8 := Lib.join (xs.map (·.data.toList)) [44]
/-- The text of what is lost. -/
def damage_Text.f (k : Nat) (a0 a1 : Int) (l : List Int) : Option (ByteArray × Option Int) :=
  (damage_Check.f k a0 a1 l).bind fun c => match c with
  | some e => some (⟨#[]⟩, some e)
  | none => if l = [] then some (⟨#[110, 111, 110, 101]⟩, none) else (damage_Text.names a0 a1 l).bind fun xs => if l.length ≤ 1000 ∧ (joined xs).length ≤ 1000000 then some (⟨(joined xs).toArray⟩, none) else none
theorem damage_Text.mono (a0 a1 : Int) (l : List Int) (k : Nat) : LeO (damage_Text.f k a0 a1 l) (damage_Text.f (k + 1) a0 a1 l) :=
  LeO.bind (damage_Check.mono a0 a1 l k) (fun _ => LeO.refl _)
omit [Errs] in
theorem info9s : (Tryd.prog.info? 9).map (fun i => (i.zero, i.size, i.bytes)) = some (some (.string ⟨#[]⟩), 1, 16) := by kernel_rfl
def TextPost (w : World) (r1 : ByteArray) (r2 : Option Int) (e : Ending) (w' : World) : Prop := e = .returned (.tuple #[.string r1, errW r2]) ∧ Below w.heap.size w w'
omit [Errs] in
theorem cells_of_block {w : World} {g : Nat} {cur : Array Value} {e : TypeId} {xs : List ByteArray} (hb : w.heap[g]? = some (.cells cur e (0, 0))) (ht : cur.toList.take xs.length = xs.map Value.string) : ∀ (j : Nat) x, xs[j]? = some x → w.cell? ⟨g, 0 + j, none⟩ = some (.string x) := by
  intro j x hj
  have hl : j < xs.length := (List.getElem?_eq_some_iff.1 hj).1
  have h1 : (cur.toList.take xs.length)[j]? = (xs.map Value.string)[j]? := by rw [ht]
  rw [List.getElem?_take_of_lt hl, List.getElem?_map, hj] at h1
  simp only [World.cell?, hb, Nat.zero_add]
  simp only [Option.isSome_none, Bool.false_eq_true, if_false]
  rw [← Array.getElem?_toList, h1]; rfl
theorem names_len {a0 a1 : Int} : ∀ {l : List Int} {xs : List ByteArray}, damage_Text.names a0 a1 l = some xs → xs.length = l.length ∧ ∀ (j : Nat) (h : j < l.length) (h2 : j < xs.length), half_Name.f a0 a1 l[j] = some (xs[j], none)
  | [], xs, h => by
    obtain rfl : [] = xs := by simpa [damage_Text.names] using h
    exact ⟨rfl, fun j h => absurd h (by simp)⟩
  | a :: t, xs, h => by
    rw [damage_Text.names] at h
    obtain ⟨p, hp, h⟩ := Option.bind_eq_some_iff.mp h
    obtain ⟨p1, p2⟩ := p
    cases p2 with
    | some e => simp at h
    | none =>
      simp only [Option.map_eq_some_iff] at h
      obtain ⟨ys, hy, rfl⟩ := h
      obtain ⟨h1, h2⟩ := names_len hy
      refine ⟨by simp [h1], fun j hj hj2 => ?_⟩
      cases j with
      | zero => exact hp
      | succ j => exact h2 j (by simpa using hj) (by simpa using hj2)

set_option maxHeartbeats 1600000 in
set_option maxRecDepth 100000 in
theorem damage_Text.no (k : Nat) (a0 a1 : Int) (A : Option Addr) (c : Nat) (l : List Int) (e : Int) (w : World) (hr : Kd.C (Kd.int .i64) w A l.length l) (hc : l.length ≤ c)
    (hchk : damage_Check.f k a0 a1 l = some (some e)) (hS : Sent damage_Text.L w) :
    Calls Tryd.prog 15 #[.int .i64 a0, .int .i64 a1, .slice A l.length c] w (TextPost w ⟨#[]⟩ (some e)) := by
  have HR := Aside0.mk hr
  have HC := Aside0.mk hc
  have HS := Aside0.mk hS
  have A1 := Aside0.mk hchk
  clear hr hc hS hchk
  go_enter Tryd.func15, Tryd.ntmps15
  go_wp2_with (go_at_call 19; (with_reducible refine (damage_Check.calls k a0 a1 _ _ l (some e) _ HR.out HC.out A1.out (Sent.sub (show ∀ c, c ∈ damage_Check.L → c ∈ damage_Text.L by decide) HS.out)).mono ?_); rintro e1 w1 ⟨rfl, ⟨nd, rfl⟩⟩; simp only [errW_some])
  go_ret2
  exact ⟨rfl, pw_below_drewN (Below.refl _ _) nd⟩

set_option maxHeartbeats 1600000 in
set_option maxRecDepth 100000 in
theorem damage_Text.nil (k : Nat) (a0 a1 : Int) (A : Option Addr) (c : Nat) (l : List Int) (hl : l = []) (w : World) (hr : Kd.C (Kd.int .i64) w A l.length l) (hc : l.length ≤ c)
    (hchk : damage_Check.f k a0 a1 l = some none) (hS : Sent damage_Text.L w) :
    Calls Tryd.prog 15 #[.int .i64 a0, .int .i64 a1, .slice A l.length c] w (TextPost w ⟨#[110, 111, 110, 101]⟩ none) := by
  have HR := Aside0.mk hr
  have HC := Aside0.mk hc
  have HS := Aside0.mk hS
  have A1 := Aside0.mk hchk
  have hz : (l.length : Int) = 0 := by rw [hl]; rfl
  clear hr hc hS hchk hl
  go_enter Tryd.func15, Tryd.ntmps15
  go_wp2_with (go_at_call 19; (with_reducible refine (damage_Check.calls k a0 a1 _ _ l none _ HR.out HC.out A1.out (Sent.sub (show ∀ c, c ∈ damage_Check.L → c ∈ damage_Text.L by decide) HS.out)).mono ?_); rintro e1 w1 ⟨rfl, ⟨nd, rfl⟩⟩; simp only [errW_none])
  go_ret2
  exact ⟨rfl, pw_below_drewN (Below.refl _ _) nd⟩

set_option maxHeartbeats 3200000 in
set_option maxRecDepth 100000 in
theorem damage_Text.go (k : Nat) (a0 a1 : Int) (A : Option Addr) (c : Nat) (l : List Int) (xs : List ByteArray) (w : World) (hr : Kd.C (Kd.int .i64) w A l.length l) (hc : l.length ≤ c)
    (hne : l ≠ []) (hx : damage_Text.names a0 a1 l = some xs) (hl : l.length ≤ 1000) (hj : (joined xs).length ≤ 1000000) (hchk : damage_Check.f k a0 a1 l = some none) (hS : Sent damage_Text.L w) :
    Calls Tryd.prog 15 #[.int .i64 a0, .int .i64 a1, .slice A l.length c] w (TextPost w ⟨(joined xs).toArray⟩ none) := by
  obtain ⟨i0, hi, hz0, hz1, hz2⟩ := info_parts info9s
  obtain ⟨hxl, hxn⟩ := names_len hx
  have HI := Aside0.mk hi
  have HZ0 := Aside0.mk hz0
  have HZ1 := Aside0.mk hz1
  have HZ2 := Aside0.mk hz2
  have HR := Aside0.mk hr
  have HC := Aside0.mk hc
  have HS := Aside0.mk hS
  have A1 := Aside0.mk hchk
  have HL := Aside0.mk hl
  have HXL := Aside0.mk hxl
  have HXN := Aside0.mk hxn
  have HJ := Aside0.mk hj
  have hpos : l.length ≠ 0 := fun h => hne (List.length_eq_zero_iff.1 h)
  have HPOS := Aside0.mk hpos
  have hzb : ((l.length : Int) == 0) = false := by rw [beq_eq_false_iff_ne]; omega
  clear hr hc hS hchk hl hxl hxn hj hi hz0 hz1 hz2 hx hne hpos
  go_enter Tryd.func15, Tryd.ntmps15
  go_wp2_with (go_at_call 19; (with_reducible refine (damage_Check.calls k a0 a1 _ _ l none _ HR.out HC.out A1.out (Sent.sub (show ∀ c, c ∈ damage_Check.L → c ∈ damage_Text.L by decide) HS.out)).mono ?_); rintro e1 w1 ⟨rfl, hd⟩; simp only [errW_none]; have HB : Aside0 (Below w.heap.size w w1) := ⟨by obtain ⟨nd, rfl⟩ := hd; exact pw_below_drewN (Below.refl _ _) nd⟩; clear hd)
  try simp only [hzb]

  go_loopg [9, 26] l.length (fun kq v9 v26 w' => ∃ (j : Nat), v26 = .int .i64 (j : Int) ∧ Aside0 (j + kq = l.length) ∧ Aside0 (Kd.R Kd.string 9 w' w.heap.size (fun _ => True) v9 (xs.take j)) ∧ Aside0 (Below w.heap.size w w'))
  case atStart =>
    exact ⟨0, rfl, ⟨by omega⟩, ⟨Kd.R_nil _ _ _ _ _⟩, HB⟩
  case round =>
    clear HB A1
    obtain ⟨j, rfl, H0, HROW, HB⟩ := hrel
    have h0 := H0.out
    by_cases hlt : j < l.length
    · obtain ⟨k1, rfl⟩ : ∃ k1, gk = k1 + 1 := ⟨gk - 1, by omega⟩
      have hjl : (j : Int) < (l.length : Int) := Int.ofNat_lt.2 hlt
      have hw1 : wrap64 ((j : Int) + 1) = ((j + 1 : Nat) : Int) := by have := HL.out; unfold wrap64; omega
      obtain ⟨adr, rfl, hxc⟩ := C_at_ (Kd.C_below HR.out HB.out) (j : Int) (by omega) hjl
      have hrd : rd l (j : Int) = l[j] := by unfold rd; rw [Int.toNat_natCast]; simp [hlt]
      rw [hrd, Int.toNat_natCast] at hxc
      have hxj : j < xs.length := by have := HXL.out; omega
      have HN := Aside0.mk (HXN.out j hlt hxj)
      have HTK : Aside0 (xs.take (j + 1) = xs.take j ++ [xs[j]]) := ⟨List.take_succ_eq_append_getElem hxj⟩
      obtain ⟨s, hs⟩ : ∃ s, xs[j] = s := ⟨_, rfl⟩
      rw [hs] at HN HTK
      have HJL : Aside0 (j < l.length) := ⟨hlt⟩
      clear h0 hrd hs hxj
      go_wp2_with (first
        | (go_at_call 21; (with_reducible refine (half_Name.calls a0 a1 l[j] s none _ HN.out (Sent.sub (show ∀ c, c ∈ half_Name.L → c ∈ damage_Text.L by decide) (HS.out.below HB.out))).mono ?_); rintro e1 w2 ⟨rfl, hb⟩; simp only [errW_none]; have HB2 := Aside0.mk (below_step HB.out hb); have HROW2 := Aside0.mk (Kd.R_below HROW.out hb); clear hb)
        | (at_builtin; refine Kd.R_append Kd.string (w0 := w) w.heap.size rfl (.tmp 40) (.tmp 42) 52 9 (.string ⟨#[]⟩) 16 rfl Tryd.underlying52 info9s rfl (by decide) (by omega) _ (xs.take j) s [.string s] (fun _ => True) (fun _ => False) rfl rfl rfl (fun _ hk => hk.elim) (fun _ _ => trivial) HROW2.out HB2.out (below_size HB2.out) (by rw [List.length_take]; have := HL.out; have := HXL.out; omega) ?_; intro v3 w3 ho hb hg hat; rw [← HTK.out] at ho; have HROW3 := Aside0.mk ho; have HB3 := Aside0.mk hb; clear ho hb hg hat)
        | go_in)
      go_roundg k1
      case measure => omega
      case rel => exact ⟨j + 1, by first | rfl | simp [hw1], ⟨by have := H0.out; omega⟩, HROW3, HB3⟩
    · obtain rfl : gk = 0 := by omega
      obtain rfl : l.length = j := by omega
      have hjl : ¬ (l.length : Int) < (l.length : Int) := by omega
      have HALL : Aside0 (xs.take l.length = xs) := ⟨by rw [← HXL.out, List.take_length]⟩
      have hrow := HROW.out
      rw [HALL.out] at hrow
      have hown := Kd.own_of_R hrow
      rcases hown.2 with ⟨hnil, hz⟩ | ⟨g, cap, cur, rfl, hbase, hb, h1, h2, h3, h4⟩
      · exact absurd (HXL.out.symm.trans hz) HPOS.out
      · have hcon := Tryd.strings_Join g 0 cap xs ⟨#[44]⟩ wr (cells_of_block hb (by simpa [encs] using h4)) (Array.getElem?_eq_some_iff.1 hb).1 (by have := HL.out; have := HXL.out; omega) h1 (by have := HJ.out; unfold joined at this; exact Nat.le_trans this (by decide))
        have HCON := Aside0.mk hcon
        clear h0 H0 hlt hcon h1 h2 h3 h4 hb hbase hrow hown HROW
        go_wp2_with (go_at_call 22; refine HCON.out.mono ?_; rintro e w' ⟨rfl, hb⟩; have HB2 := Aside0.mk (below_step HB.out hb); clear hb)
        go_ret2
        exact ⟨rfl, HB2.out⟩

theorem damage_Text.calls (k : Nat) (a0 : Int) (a1 : Int) (A2 : Option Addr) (c2 : Nat) (l2 : List Int) (r1 : ByteArray) (r2 : Option Int) (w : World) (hr2 : Kd.C (Kd.int .i64) w A2 l2.length l2) (hc2 : l2.length ≤ c2) (h : damage_Text.f k a0 a1 l2 = some (r1, r2)) (hS : Sent damage_Text.L w) :
    Calls Tryd.prog 15 #[.int .i64 a0, .int .i64 a1, .slice A2 l2.length c2] w fun e w' => e = .returned (.tuple #[.string r1, errW r2]) ∧ Below w.heap.size w w' := by
  unfold damage_Text.f at h
  obtain ⟨c, hc, h⟩ := Option.bind_eq_some_iff.mp h
  cases c with
  | some e =>
    obtain ⟨rfl, rfl⟩ : (⟨#[]⟩ : ByteArray) = r1 ∧ some e = r2 := by simpa using h
    exact damage_Text.no k a0 a1 A2 c2 l2 e w hr2 hc2 hc hS
  | none =>
    simp only at h
    by_cases hn : l2 = []
    · rw [if_pos hn] at h
      obtain ⟨rfl, rfl⟩ : (⟨#[110, 111, 110, 101]⟩ : ByteArray) = r1 ∧ none = r2 := by simpa using h
      exact damage_Text.nil k a0 a1 A2 c2 l2 hn w hr2 hc2 hc hS
    · rw [if_neg hn] at h
      obtain ⟨xs, hx, h⟩ := Option.bind_eq_some_iff.mp h
      by_cases hb : l2.length ≤ 1000 ∧ (joined xs).length ≤ 1000000
      · rw [if_pos hb] at h
        obtain ⟨rfl, rfl⟩ : (⟨(joined xs).toArray⟩ : ByteArray) = r1 ∧ none = r2 := by simpa using h
        exact damage_Text.go k a0 a1 A2 c2 l2 xs w hr2 hc2 hn hx hb.1 hb.2 hc hS
      · rw [if_neg hb] at h; cases h

end Go.Proofs.YtndnedjclbigiaaDoor

namespace Go.Proofs.YtndnedjclbigiaaDoor.Lin
set_option linter.unusedVariables false

abbrev GF := BitVec 8
def dbl (x : GF) : GF := (x <<< 1) ^^^ (if x.msb then 0x1d#8 else 0#8)
theorem dbl_xor (x y : GF) : dbl (x ^^^ y) = dbl x ^^^ dbl y := by
  unfold dbl
  rw [BitVec.shiftLeft_xor_distrib, BitVec.msb_xor]
  cases x.msb <;> cases y.msb <;> simp
  · ac_rfl
  · ac_rfl
  · have : ∀ a b c : GF, a ^^^ b = a ^^^ c ^^^ (b ^^^ c) := by
      intro a b c
      have h : a ^^^ c ^^^ (b ^^^ c) = a ^^^ b ^^^ (c ^^^ c) := by ac_rfl
      rw [h, BitVec.xor_self, BitVec.xor_zero]
    exact this _ _ _
def mulN : Nat → GF → Nat → GF
  | 0, _, _ => 0
  | n + 1, x, y => (if y % 2 = 1 then x else 0) ^^^ mulN n (dbl x) (y / 2)
def mul (x y : GF) : GF := mulN 8 x y.toNat
theorem mulN_xor (n : Nat) : ∀ (x x' : GF) (y : Nat), mulN n (x ^^^ x') y = mulN n x y ^^^ mulN n x' y := by
  induction n with
  | zero => intro x x' y; simp [mulN]
  | succ n ih =>
    intro x x' y
    rw [mulN, mulN, mulN, dbl_xor, ih]
    by_cases h : y % 2 = 1
    · rw [if_pos h, if_pos h, if_pos h]; ac_rfl
    · rw [if_neg h, if_neg h, if_neg h]
      have : (0 : GF) ^^^ (0 : GF) = 0 := rfl
      simp
theorem xor_mod2 (a b : Nat) : (a ^^^ b) % 2 = (a % 2 + b % 2) % 2 := by
  have h := Nat.testBit_xor (x := a) (y := b) (i := 0)
  rw [Nat.testBit_zero, Nat.testBit_zero, Nat.testBit_zero] at h
  have h1 : a % 2 = 0 ∨ a % 2 = 1 := by omega
  have h2 : b % 2 = 0 ∨ b % 2 = 1 := by omega
  have h3 : (a ^^^ b) % 2 = 0 ∨ (a ^^^ b) % 2 = 1 := by omega
  rcases h1 with h1 | h1 <;> rcases h2 with h2 | h2 <;> rcases h3 with h3 | h3 <;> rw [h1, h2, h3] at h <;> first | omega | (exact absurd h (by decide))
theorem xor_div2 (a b : Nat) : (a ^^^ b) / 2 = (a / 2) ^^^ (b / 2) := by
  apply Nat.eq_of_testBit_eq
  intro i
  rw [Nat.testBit_xor, Nat.testBit_div_two, Nat.testBit_div_two, Nat.testBit_div_two, Nat.testBit_xor]
theorem mulN_xor_right (n : Nat) : ∀ (x : GF) (y y' : Nat), mulN n x (y ^^^ y') = mulN n x y ^^^ mulN n x y' := by
  induction n with
  | zero => intro x y y'; simp [mulN]
  | succ n ih =>
    intro x y y'
    rw [mulN, mulN, mulN, xor_mod2, xor_div2, ih]
    have h1 : y % 2 = 0 ∨ y % 2 = 1 := by omega
    have h2 : y' % 2 = 0 ∨ y' % 2 = 1 := by omega
    rcases h1 with h1 | h1 <;> rcases h2 with h2 | h2 <;> simp [h1, h2]
    · ac_rfl
    · ac_rfl
    · have : ∀ a b c : GF, b ^^^ c = a ^^^ b ^^^ (a ^^^ c) := by
        intro a b c
        have h : a ^^^ b ^^^ (a ^^^ c) = (a ^^^ a) ^^^ (b ^^^ c) := by ac_rfl
        rw [h, BitVec.xor_self, BitVec.zero_xor]
      exact this _ _ _
theorem xor_mul (x x' y : GF) : mul (x ^^^ x') y = mul x y ^^^ mul x' y := mulN_xor 8 x x' _
theorem mul_xor (x y y' : GF) : mul x (y ^^^ y') = mul x y ^^^ mul x y' := by unfold mul; rw [BitVec.toNat_xor]; exact mulN_xor_right 8 x _ _

/-- What is told of the eight bits is told of all. -/
theorem bits_of : ((List.range 256).all fun n => decide (BitVec.ofNat 8 n = (if n % 2 = 1 then 1#8 else 0#8) ^^^ (if n / 2 % 2 = 1 then 2#8 else 0#8) ^^^ (if n / 4 % 2 = 1 then 4#8 else 0#8) ^^^ (if n / 8 % 2 = 1 then 8#8 else 0#8) ^^^ (if n / 16 % 2 = 1 then 16#8 else 0#8) ^^^ (if n / 32 % 2 = 1 then 32#8 else 0#8) ^^^ (if n / 64 % 2 = 1 then 64#8 else 0#8) ^^^ (if n / 128 % 2 = 1 then 128#8 else 0#8))) = true := by kernel_rfl
theorem by_bits (f g : GF → GF) (hf : ∀ x y, f (x ^^^ y) = f x ^^^ f y) (hg : ∀ x y, g (x ^^^ y) = g x ^^^ g y)
    (h : f 1#8 = g 1#8 ∧ f 2#8 = g 2#8 ∧ f 4#8 = g 4#8 ∧ f 8#8 = g 8#8 ∧ f 16#8 = g 16#8 ∧ f 32#8 = g 32#8 ∧ f 64#8 = g 64#8 ∧ f 128#8 = g 128#8) (x : GF) : f x = g x := by
  have f0 : f 0#8 = 0#8 := by
    have := hf 0#8 0#8
    rw [BitVec.xor_self, BitVec.xor_self] at this
    exact this
  have g0 : g 0#8 = 0#8 := by
    have := hg 0#8 0#8
    rw [BitVec.xor_self, BitVec.xor_self] at this
    exact this
  have hi : ∀ (c : Prop) [Decidable c] (b : GF), f b = g b → f (if c then b else 0#8) = g (if c then b else 0#8) := by
    intro c _ b hb
    by_cases hc : c
    · rw [if_pos hc, hb]
    · rw [if_neg hc, f0, g0]
  have hx := of_decide_eq_true (List.all_eq_true.1 bits_of x.toNat (List.mem_range.2 x.isLt))
  rw [BitVec.ofNat_toNat, BitVec.setWidth_eq] at hx
  obtain ⟨h1, h2, h3, h4, h5, h6, h7, h8⟩ := h
  rw [hx]
  simp only [hf, hg]
  rw [hi _ _ h1, hi _ _ h2, hi _ _ h3, hi _ _ h4, hi _ _ h5, hi _ _ h6, hi _ _ h7, hi _ _ h8]

theorem mul_comm (x y : GF) : mul x y = mul y x := by
  have key : ∀ b ∈ ([1#8, 2#8, 4#8, 8#8, 16#8, 32#8, 64#8, 128#8] : List GF), ∀ y, mul b y = mul y b := by
    intro b hb y
    refine by_bits (fun y => mul b y) (fun y => mul y b) (fun _ _ => mul_xor _ _ _) (fun _ _ => xor_mul _ _ _) ?_ y
    simp only [List.mem_cons, List.not_mem_nil, or_false] at hb
    rcases hb with rfl | rfl | rfl | rfl | rfl | rfl | rfl | rfl <;> decide
  refine by_bits (fun x => mul x y) (fun x => mul y x) (fun _ _ => xor_mul _ _ _) (fun _ _ => mul_xor _ _ _) ⟨?_, ?_, ?_, ?_, ?_, ?_, ?_, ?_⟩ x
  all_goals exact key _ (by simp) y
theorem mul_assoc (x y z : GF) : mul (mul x y) z = mul x (mul y z) := by
  have k2 : ∀ b ∈ ([1#8, 2#8, 4#8, 8#8, 16#8, 32#8, 64#8, 128#8] : List GF), ∀ c ∈ ([1#8, 2#8, 4#8, 8#8, 16#8, 32#8, 64#8, 128#8] : List GF), ∀ z, mul (mul b c) z = mul b (mul c z) := by
    intro b hb c hc z
    refine by_bits (fun z => mul (mul b c) z) (fun z => mul b (mul c z)) (fun _ _ => mul_xor _ _ _) (fun _ _ => by simp only [mul_xor]) ?_ z
    simp only [List.mem_cons, List.not_mem_nil, or_false] at hb hc
    rcases hb with rfl | rfl | rfl | rfl | rfl | rfl | rfl | rfl <;> rcases hc with rfl | rfl | rfl | rfl | rfl | rfl | rfl | rfl <;> decide
  have k1 : ∀ b ∈ ([1#8, 2#8, 4#8, 8#8, 16#8, 32#8, 64#8, 128#8] : List GF), ∀ y z, mul (mul b y) z = mul b (mul y z) := by
    intro b hb y z
    refine by_bits (fun y => mul (mul b y) z) (fun y => mul b (mul y z)) (fun _ _ => by simp only [mul_xor, xor_mul]) (fun _ _ => by simp only [mul_xor, xor_mul]) ⟨?_, ?_, ?_, ?_, ?_, ?_, ?_, ?_⟩ y
    all_goals exact k2 b hb _ (by simp) z
  refine by_bits (fun x => mul (mul x y) z) (fun x => mul x (mul y z)) (fun _ _ => by simp only [xor_mul]) (fun _ _ => by simp only [xor_mul]) ⟨?_, ?_, ?_, ?_, ?_, ?_, ?_, ?_⟩ x
  all_goals exact k1 _ (by simp) y z
theorem one_mul (x : GF) : mul 1#8 x = x := by
  refine by_bits (fun x => mul 1#8 x) (fun x => x) (fun _ _ => mul_xor _ _ _) (fun _ _ => rfl) ?_ x
  decide
theorem zero_mul (x : GF) : mul 0#8 x = 0#8 := by
  have := xor_mul 0#8 0#8 x
  rw [BitVec.xor_self, BitVec.xor_self] at this
  exact this
theorem mul_zero (x : GF) : mul x 0#8 = 0#8 := by rw [mul_comm, zero_mul]
theorem mul_one (x : GF) : mul x 1#8 = x := by rw [mul_comm, one_mul]
/-- A power, for inverses. -/
def invs : Nat → GF → GF
  | 0, _ => 1#8
  | n + 1, x => mul (mul x x) (invs n (mul x x))
def inv (x : GF) : GF := invs 7 x
theorem inv_all : ((List.range 256).all fun n => n == 0 || decide (mul (BitVec.ofNat 8 n) (inv (BitVec.ofNat 8 n)) = 1#8)) = true := by kernel_rfl
theorem mul_inv {x : GF} (h : x ≠ 0#8) : mul x (inv x) = 1#8 := by
  have hx := List.all_eq_true.1 inv_all x.toNat (List.mem_range.2 x.isLt)
  rw [BitVec.ofNat_toNat, BitVec.setWidth_eq] at hx
  have h0 : (x.toNat == 0) = false := by
    apply beq_eq_false_iff_ne.2
    intro e
    exact h (BitVec.eq_of_toNat_eq (by simpa using e))
  rw [h0, Bool.false_or] at hx
  exact of_decide_eq_true hx
theorem mul_ne {x y : GF} (hx : x ≠ 0#8) (hy : y ≠ 0#8) : mul x y ≠ 0#8 := by
  intro h
  apply hy
  have : mul (inv x) (mul x y) = 0#8 := by rw [h, mul_zero]
  rw [← mul_assoc, mul_comm (inv x), mul_inv hx, one_mul] at this
  exact this
theorem mul_cancel {c x : GF} (hc : c ≠ 0#8) (h : mul c x = 0#8) : x = 0#8 := by
  by_cases hx : x = 0#8
  · exact hx
  · exact absurd h (mul_ne hc hx)
theorem xor_eq_zero {x y : GF} (h : x ^^^ y = 0#8) : x = y := by
  have : x ^^^ y ^^^ y = 0#8 ^^^ y := by rw [h]
  rw [BitVec.xor_assoc, BitVec.xor_self, BitVec.xor_zero, BitVec.zero_xor] at this
  exact this
end Go.Proofs.YtndnedjclbigiaaDoor.Lin

namespace Go.Proofs.YtndnedjclbigiaaDoor.Lin
set_option linter.unusedVariables false

def xsum : Nat → (Nat → GF) → GF
  | 0, _ => 0#8
  | n + 1, f => xsum n f ^^^ f n
theorem xsum_congr {n : Nat} {f g : Nat → GF} (h : ∀ j, j < n → f j = g j) : xsum n f = xsum n g := by
  induction n with
  | zero => rfl
  | succ n ih => rw [xsum, xsum, ih (fun j hj => h j (by omega)), h n (by omega)]
theorem xsum_xor (n : Nat) (f g : Nat → GF) : xsum n (fun j => f j ^^^ g j) = xsum n f ^^^ xsum n g := by
  induction n with
  | zero => simp [xsum]
  | succ n ih => rw [xsum, xsum, xsum, ih]; ac_rfl
theorem xsum_mul (n : Nat) (c : GF) (f : Nat → GF) : xsum n (fun j => mul c (f j)) = mul c (xsum n f) := by
  induction n with
  | zero => rw [xsum, xsum, mul_zero]
  | succ n ih => rw [xsum, xsum, ih, mul_xor]
theorem xsum_zero {n : Nat} {f : Nat → GF} (h : ∀ j, j < n → f j = 0#8) : xsum n f = 0#8 := by
  induction n with
  | zero => rfl
  | succ n ih => rw [xsum, ih (fun j hj => h j (by omega)), h n (by omega), BitVec.xor_zero]
theorem xsum_single {n : Nat} {f : Nat → GF} (i : Nat) (hi : i < n) (h : ∀ j, j < n → j ≠ i → f j = 0#8) : xsum n f = f i := by
  induction n with
  | zero => omega
  | succ n ih =>
    rw [xsum]
    rcases Nat.lt_or_ge i n with h1 | h1
    · rw [ih h1 (fun j hj hne => h j (by omega) hne), h n (by omega) (by omega), BitVec.xor_zero]
    · obtain rfl : i = n := by omega
      rw [xsum_zero (fun j hj => h j (by omega) (by omega)), BitVec.zero_xor]
theorem xsum_two {n : Nat} {f : Nat → GF} (i c : Nat) (hi : i < n) (hc : c < n) (hne : i ≠ c) (h : ∀ j, j < n → j ≠ i → j ≠ c → f j = 0#8) : xsum n f = f i ^^^ f c := by
  have h1 : xsum n f = xsum n (fun j => (if j = i then f j else 0#8) ^^^ (if j = i then 0#8 else f j)) := xsum_congr (fun j _ => by by_cases e : j = i <;> simp [e])
  rw [h1, xsum_xor, xsum_single i hi (fun j _ hj => if_neg hj), xsum_single c hc (fun j hj hjc => by
    by_cases e : j = i
    · rw [if_pos e]
    · rw [if_neg e]; exact h j hj e hjc), if_pos rfl, if_neg (fun e => hne e.symm)]

def lsum {α : Type} : List α → (α → GF) → GF
  | [], _ => 0#8
  | a :: ys, f => f a ^^^ lsum ys f
section
variable {α : Type}
theorem lsum_congr {l : List α} {f g : α → GF} (h : ∀ b, b ∈ l → f b = g b) : lsum l f = lsum l g := by
  induction l with
  | nil => rfl
  | cons a ys ih => rw [lsum, lsum, ih (fun b hb => h b (List.mem_cons_of_mem _ hb)), h a List.mem_cons_self]
theorem lsum_xor (l : List α) (f g : α → GF) : lsum l (fun j => f j ^^^ g j) = lsum l f ^^^ lsum l g := by
  induction l with
  | nil => simp [lsum]
  | cons a ys ih => rw [lsum, lsum, lsum, ih]; ac_rfl
theorem lsum_mul (l : List α) (c : GF) (f : α → GF) : lsum l (fun j => mul c (f j)) = mul c (lsum l f) := by
  induction l with
  | nil => rw [lsum, lsum, mul_zero]
  | cons a ys ih => rw [lsum, lsum, ih, mul_xor]
theorem lsum_zero {l : List α} {f : α → GF} (h : ∀ b, b ∈ l → f b = 0#8) : lsum l f = 0#8 := by
  induction l with
  | nil => rfl
  | cons a ys ih => rw [lsum, ih (fun b hb => h b (List.mem_cons_of_mem _ hb)), h a List.mem_cons_self, BitVec.xor_zero]
end
theorem xor_cancel (a b : GF) : a ^^^ (a ^^^ b) = b := by rw [← BitVec.xor_assoc, BitVec.xor_self, BitVec.zero_xor]
theorem ne_xor {a b : GF} (h : a ≠ b) : a ^^^ b ≠ 0#8 := fun e => h (xor_eq_zero e)
theorem inv_add {u v : GF} (hu : u ≠ 0#8) (hv : v ≠ 0#8) : inv u ^^^ inv v = mul (u ^^^ v) (mul (inv u) (inv v)) := by
  rw [xor_mul, ← mul_assoc, mul_inv hu, one_mul, mul_comm (inv u), ← mul_assoc, mul_inv hv, one_mul]
  exact BitVec.xor_comm _ _

theorem cauchy : ∀ (bs ys : List GF) (x : GF → GF), bs.Nodup → ys.Nodup → ys.length = bs.length → (∀ a, a ∈ ys → ∀ b, b ∈ bs → a ≠ b) →
    (∀ a, a ∈ ys → lsum bs (fun b => mul (x b) (inv (a ^^^ b))) = 0#8) → ∀ b, b ∈ bs → x b = 0#8 := by
  intro bs
  induction bs with
  | nil => intro ys x _ _ _ _ _ b hb; simp at hb
  | cons bm bs ih =>
    intro ys x hbn han hlen hne heq
    cases ys with
    | nil => simp at hlen
    | cons am ys =>
      obtain ⟨hbm, hbn'⟩ := List.nodup_cons.1 hbn
      obtain ⟨ham, han'⟩ := List.nodup_cons.1 han
      have hab : ∀ a, a ∈ am :: ys → ∀ b, b ∈ bm :: bs → a ^^^ b ≠ 0#8 := fun a ha b hb => ne_xor (hne a ha b hb)
      -- T a = S
      have hT : ∀ a, a ∈ am :: ys → lsum bs (fun b => mul (mul (x b) (b ^^^ bm)) (inv (a ^^^ b))) = x bm ^^^ lsum bs x := by
        intro a ha
        have h0 := heq a ha
        rw [lsum] at h0
        have h1 : mul (a ^^^ bm) (mul (x bm) (inv (a ^^^ bm)) ^^^ lsum bs (fun b => mul (x b) (inv (a ^^^ b)))) = 0#8 := by rw [h0, mul_zero]
        rw [mul_xor, ← lsum_mul, mul_comm (x bm), ← mul_assoc, mul_inv (hab a ha bm List.mem_cons_self), one_mul] at h1
        have h2 : lsum bs (fun b => mul (a ^^^ bm) (mul (x b) (inv (a ^^^ b)))) = lsum bs (fun b => x b ^^^ mul (mul (x b) (b ^^^ bm)) (inv (a ^^^ b))) := by
          refine lsum_congr (fun b hb => ?_)
          have e : a ^^^ bm = (a ^^^ b) ^^^ (b ^^^ bm) := by
            have : (a ^^^ b) ^^^ (b ^^^ bm) = a ^^^ (b ^^^ b) ^^^ bm := by ac_rfl
            rw [this, BitVec.xor_self, BitVec.xor_zero]
          rw [e, xor_mul]
          congr 1
          · rw [mul_comm (x b), ← mul_assoc, mul_inv (hab a ha b (List.mem_cons_of_mem _ hb)), one_mul]
          · rw [← mul_assoc, mul_comm (b ^^^ bm)]
        rw [h2, lsum_xor, ← BitVec.xor_assoc] at h1
        exact (xor_eq_zero h1).symm
      have hu : ∀ b, b ∈ bs → mul (mul (x b) (b ^^^ bm)) (inv (am ^^^ b)) = 0#8 := by
        refine ih ys (fun b => mul (mul (x b) (b ^^^ bm)) (inv (am ^^^ b))) hbn' han' (by simpa using hlen) (fun a ha b hb => hne a (List.mem_cons_of_mem _ ha) b (List.mem_cons_of_mem _ hb)) ?_
        intro a ha
        have h1 := hT a (List.mem_cons_of_mem _ ha)
        have h2 := hT am List.mem_cons_self
        have h3 : lsum bs (fun b => mul (mul (x b) (b ^^^ bm)) (inv (a ^^^ b))) ^^^ lsum bs (fun b => mul (mul (x b) (b ^^^ bm)) (inv (am ^^^ b))) = 0#8 := by rw [h1, h2, BitVec.xor_self]
        rw [← lsum_xor] at h3
        have h4 : lsum bs (fun b => mul (mul (x b) (b ^^^ bm)) (inv (a ^^^ b)) ^^^ mul (mul (x b) (b ^^^ bm)) (inv (am ^^^ b))) = lsum bs (fun b => mul (a ^^^ am) (mul (mul (mul (x b) (b ^^^ bm)) (inv (am ^^^ b))) (inv (a ^^^ b)))) := by
          refine lsum_congr (fun b hb => ?_)
          rw [← mul_xor, inv_add (hab a (List.mem_cons_of_mem _ ha) b (List.mem_cons_of_mem _ hb)) (hab am List.mem_cons_self b (List.mem_cons_of_mem _ hb))]
          have e : (a ^^^ b) ^^^ (am ^^^ b) = a ^^^ am := by
            have : (a ^^^ b) ^^^ (am ^^^ b) = (a ^^^ am) ^^^ (b ^^^ b) := by ac_rfl
            rw [this, BitVec.xor_self, BitVec.xor_zero]
          rw [e, ← mul_assoc (mul (x b) (b ^^^ bm)) (a ^^^ am), mul_comm (mul (x b) (b ^^^ bm)) (a ^^^ am), mul_assoc (a ^^^ am), mul_assoc (mul (x b) (b ^^^ bm)), mul_comm (inv (am ^^^ b))]
        rw [h4, lsum_mul] at h3
        refine mul_cancel (ne_xor ?_) h3
        rintro rfl
        exact ham ha
      have hx : ∀ b, b ∈ bs → x b = 0#8 := by
        intro b hb
        have hbb : b ^^^ bm ≠ 0#8 := ne_xor (by rintro rfl; exact hbm hb)
        have h1 := hu b hb
        have h2 : mul (inv (am ^^^ b)) (mul (x b) (b ^^^ bm)) = 0#8 := by rw [mul_comm]; exact h1
        have h3 : inv (am ^^^ b) ≠ 0#8 := by
          intro e
          have := mul_inv (hab am List.mem_cons_self b (List.mem_cons_of_mem _ hb))
          rw [e, mul_zero] at this
          exact absurd this (by decide)
        have h4 := mul_cancel h3 h2
        rw [mul_comm] at h4
        exact mul_cancel hbb h4
      intro b hb
      rcases List.mem_cons.1 hb with rfl | hb
      · have h0 := heq am List.mem_cons_self
        rw [lsum, lsum_zero (fun c hc => by rw [hx c hc, zero_mul]), BitVec.xor_zero, mul_comm] at h0
        have h3 : inv (am ^^^ b) ≠ 0#8 := by
          intro e
          have := mul_inv (hab am List.mem_cons_self b List.mem_cons_self)
          rw [e, mul_zero] at this
          exact absurd this (by decide)
        exact mul_cancel h3 h0
      · exact hx b hb
end Go.Proofs.YtndnedjclbigiaaDoor.Lin

namespace Go.Proofs.YtndnedjclbigiaaDoor.F
open Go.RowKit Go.Proofs.YtndnedjclbigiaaDoorW.PrintWords Go.Proofs.YtndnedjclbigiaaDoorW.PrintLast Go.Proofs.YtndnedjclbigiaaDoorW.PrintMore
attribute [local go_sem] max2_int min2_int max_two min_two max_three min_three max_four min_four   -- for this text's walks alone
set_option linter.unusedVariables false
set_option linter.unusedSimpArgs false
set_option linter.unusedSectionVars false
open Go.Proofs.YtndnedjclbigiaaDoor
variable [Errs]

/-! ### tesseraref04_Legal: function 7 -/
def tesseraref04_Legal.f (a0 : Int) (a1 : Int) : Option (Bool) := if a0 ≥ 1 then (if a0 ≤ 16 then (if a1 ≥ 2 then (if a1 ≤ 16 then (some (decide ((wrap64 (a0 + a1)) ≤ 16))) else (some false)) else (some false)) else (some false)) else (some false)
set_option maxHeartbeats 8000000 in
set_option maxRecDepth 100000 in
theorem tesseraref04_Legal.calls (a0 : Int) (a1 : Int) (r : Bool) (w : World) (h : tesseraref04_Legal.f a0 a1 = some r) :
    Calls Tryd.prog 7 #[.int .i64 a0, .int .i64 a1] w fun e w' => e = .returned (.bool r) ∧ Drawn0 w w' := by
  have H : (if a0 ≥ 1 then (if a0 ≤ 16 then (if a1 ≥ 2 then (if a1 ≤ 16 then (some (decide ((wrap64 (a0 + a1)) ≤ 16))) else (some false)) else (some false)) else (some false)) else (some false)) = some r := h
  clear h
  by_cases c3 : a0 ≥ 1
  · rw [if_pos c3] at H
    have c3b0 : decide (1 ≤ a0) = true := decide_eq_true c3
    clear c3
    by_cases c4 : a0 ≤ 16
    · rw [if_pos c4] at H
      have c4b0 : decide (a0 ≤ 16) = true := decide_eq_true c4
      clear c4
      by_cases c5 : a1 ≥ 2
      · rw [if_pos c5] at H
        have c5b0 : decide (2 ≤ a1) = true := decide_eq_true c5
        clear c5
        by_cases c6 : a1 ≤ 16
        · rw [if_pos c6] at H
          have c6b0 : decide (a1 ≤ 16) = true := decide_eq_true c6
          clear c6
          obtain rfl := Option.some.inj H
          go_enter Tryd.func7, Tryd.ntmps7
          go_wp2
          go_ret
          exact ⟨by first | rfl | (simp; done) | (simp [*]; done), by repeat (first | exact Drawn0.refl _ | apply Drawn0.step)⟩
        · rw [if_neg c6] at H
          have c6b0 : decide (a1 ≤ 16) = false := decide_eq_false c6
          clear c6
          obtain rfl := Option.some.inj H
          go_enter Tryd.func7, Tryd.ntmps7
          go_wp2
          go_ret
          exact ⟨by first | rfl | (simp; done) | (simp [*]; done), by repeat (first | exact Drawn0.refl _ | apply Drawn0.step)⟩
      · rw [if_neg c5] at H
        have c5b0 : decide (2 ≤ a1) = false := decide_eq_false c5
        clear c5
        obtain rfl := Option.some.inj H
        go_enter Tryd.func7, Tryd.ntmps7
        go_wp2
        go_ret
        exact ⟨by first | rfl | (simp; done) | (simp [*]; done), by repeat (first | exact Drawn0.refl _ | apply Drawn0.step)⟩
    · rw [if_neg c4] at H
      have c4b0 : decide (a0 ≤ 16) = false := decide_eq_false c4
      clear c4
      obtain rfl := Option.some.inj H
      go_enter Tryd.func7, Tryd.ntmps7
      go_wp2
      go_ret
      exact ⟨by first | rfl | (simp; done) | (simp [*]; done), by repeat (first | exact Drawn0.refl _ | apply Drawn0.step)⟩
  · rw [if_neg c3] at H
    have c3b0 : decide (1 ≤ a0) = false := decide_eq_false c3
    clear c3
    obtain rfl := Option.some.inj H
    go_enter Tryd.func7, Tryd.ntmps7
    go_wp2
    go_ret
    exact ⟨by first | rfl | (simp; done) | (simp [*]; done), by repeat (first | exact Drawn0.refl _ | apply Drawn0.step)⟩

end Go.Proofs.YtndnedjclbigiaaDoor.F

namespace Go.Proofs.YtndnedjclbigiaaDoor.Plain
open Go.RowKit Go.Proofs.YtndnedjclbigiaaDoorW.PrintWords Go.Proofs.YtndnedjclbigiaaDoorW.PrintLast Go.Proofs.YtndnedjclbigiaaDoor.F
set_option linter.unusedVariables false
abbrev nameErrs : Errs := ⟨fun _ => ⟨0, 0, none⟩⟩
attribute [local instance] nameErrs

def legalB (a b : Nat) : Bool := decide (1 ≤ a) && decide (2 ≤ b) && decide (a + b ≤ 16)
/-- Legal or not: what the two texts ask. -/
theorem legal_cases (a b : Int) :
    (∃ A B : Nat, a = A ∧ b = B ∧ legalB A B = true ∧ tesseraref04_Legal.f a b = some true ∧ base_Check.f a b = some none) ∨
    (tesseraref04_Legal.f a b = some false ∧ base_Check.f a b = some (some 1)) := by
  by_cases c : 1 ≤ a ∧ 2 ≤ b ∧ b ≤ 16 ∧ a + b ≤ 16
  · obtain ⟨c0, c1, c2, c3⟩ := c
    left
    refine ⟨a.toNat, b.toNat, by omega, by omega, ?_, ?_, ?_⟩
    · simp [legalB]; omega
    · unfold tesseraref04_Legal.f
      have : wrap64 (a + b) = a + b := by unfold wrap64; omega
      rw [if_pos (by omega), if_pos (by omega), if_pos (by omega), if_pos (by omega), this, decide_eq_true (by omega)]
    · unfold base_Check.f
      have : wrap64 (16 - a) = 16 - a := by unfold wrap64; omega
      rw [if_neg (by omega), if_neg (by omega), if_neg (by omega), this, if_neg (by omega)]
  · right
    constructor
    · unfold tesseraref04_Legal.f
      by_cases c0 : a ≥ 1
      · by_cases c1 : a ≤ 16
        · by_cases c2 : b ≥ 2
          · by_cases c3 : b ≤ 16
            · have : wrap64 (a + b) = a + b := by unfold wrap64; omega
              rw [if_pos c0, if_pos c1, if_pos c2, if_pos c3, this, decide_eq_false (by omega)]
            · rw [if_pos c0, if_pos c1, if_pos c2, if_neg c3]
          · rw [if_pos c0, if_pos c1, if_neg c2]
        · rw [if_pos c0, if_neg c1]
      · rw [if_neg c0]
    · unfold base_Check.f
      by_cases c0 : a < 1
      · rw [if_pos c0]
      · by_cases c1 : a ≥ 16
        · rw [if_neg c0, if_pos c1]
        · by_cases c2 : b < 2
          · rw [if_neg c0, if_neg c1, if_pos c2]
          · have : wrap64 (16 - a) = 16 - a := by unfold wrap64; omega
            rw [if_neg c0, if_neg c1, if_neg c2, this, if_pos (by omega)]

end Go.Proofs.YtndnedjclbigiaaDoor.Plain
