/- mat.Row: by hand: the row as a copy, of a matrix in form. -/
import Derived.Test.YtnnondbimdmcaaaDoorG2
import Derived.Test.YtnnondbimdmcaaaDoorF43
namespace Go.Proofs.YtnnondbimdmcaaaDoor
open Go.RowKit Go.Proofs.YtnnondbimdmcaaaDoorW.PrintWords Go.Proofs.YtnnondbimdmcaaaDoorW.PrintLast Go.Proofs.YtnnondbimdmcaaaDoorW.PrintMore
open Go.Proofs.YtnnondbimdmcaaaDoor.F
set_option linter.unusedVariables false
set_option linter.unusedSectionVars false
set_option linter.unusedSimpArgs false
set_option linter.unusedVariables false
variable [Errs]

/-- A cut of what reads as a list reads as the list's part. -/
theorem C_cut {k : IntKind} {w : World} {ad : Addr} {n : Nat} {xs : List Int} (h : (Kd.int k).C w (some ad) n xs) (p q : Nat) (hpq : p ≤ q) (hq : q ≤ n) :
    (Kd.int k).C w (some (ad.add p)) (q - p) ((xs.drop p).take (q - p)) := by
  obtain ⟨hl, hm, hc⟩ := h
  refine ⟨by rw [List.length_take, List.length_drop]; omega, by omega, fun hn => ?_⟩
  obtain ⟨ad', e, hx⟩ := hc (by omega)
  cases e
  refine ⟨_, rfl, fun j x hj => ?_⟩
  have hjl : j < q - p := by
    have := (List.getElem?_eq_some_iff.1 hj).1
    rw [List.length_take] at this
    omega
  have hj' : xs[p + j]? = some x := by
    rw [List.getElem?_take_of_lt hjl, List.getElem?_drop] at hj
    exact hj
  obtain ⟨c, hcs, hr, hcell⟩ := hx (p + j) x hj'
  refine ⟨c, hcs, hr, fun i u hu => ?_⟩
  have := hcell i u hu
  have e2 : (ad.add p).add (j * (Kd.int k).sz + i) = ad.add ((p + j) * (Kd.int k).sz + i) := by
    have hs : (Kd.int k).sz = 1 := rfl
    rw [hs, Addr.add_add]; congr 1; omega
  rw [e2]; exact this

theorem C_cut_nil {k : IntKind} {w : World} {A : Option Addr} : (Kd.int k).C w A 0 [] := ⟨rfl, by simp, fun h => absurd h (Nat.lt_irrefl 0)⟩

/-- What mat.line answers. -/
def LinePost (ad : Addr) (p q : Nat) (w : World) (e : Ending) (w' : World) : Prop :=
  (∃ A', e = .returned (.slice A' (q - p) (q - p)) ∧ (A' = some (ad.add p) ∨ q = p)) ∧ Below w.heap.size w w'
def LineNil (w : World) (e : Ending) (w' : World) : Prop := (∃ A' c', e = .returned (.slice A' 0 c')) ∧ Below w.heap.size w w'
/-- What a cut of a slice that came in is: its address, and that it reads as the part wherever the whole reads so. -/
def CutOf (k : IntKind) (A : Option Addr) (n : Nat) (xs : List Int) (p q : Nat) (A' : Option Addr) : Prop :=
  ∀ w : World, (Kd.int k).C w A n xs → (Kd.int k).C w A' (q - p) ((xs.drop p).take (q - p))

set_option maxHeartbeats 800000 in
set_option maxRecDepth 100000 in
theorem mat_line_some (m0 m1 : Int) (ad : Addr) (n c : Nat) (i p q : Int) (w : World) (hp : wrap64 (i * m1) = p) (hq : wrap64 (wrap64 (i + 1) * m1) = q) (h0 : 0 ≤ p) (h1 : p ≤ q) (h2 : q ≤ (c : Int)) :
    Calls Tryd.prog 45 #[.agg #[.int .i64 m0, .int .i64 m1, .slice (some ad) n c], .int .i64 i] w (LinePost ad p.toNat q.toNat w) := by
  have hu43 := Tryd.underlying43
  go_enter Tryd.func45, Tryd.ntmps45
  go_wp2
  · rename_i h
    go_ret
    exact ⟨⟨some ad, by rw [Nat.sub_self]; rfl, .inr rfl⟩, (Below.refl _ _).alloc (Nat.le_refl _) _⟩
  · go_ret
    exact ⟨⟨_, rfl, .inl rfl⟩, (Below.refl _ _).alloc (Nat.le_refl _) _⟩

set_option maxHeartbeats 800000 in
set_option maxRecDepth 100000 in
theorem mat_line_none (m0 m1 : Int) (n c : Nat) (i : Int) (w : World) (hp : wrap64 (i * m1) = 0) (hq : wrap64 (wrap64 (i + 1) * m1) = 0) :
    Calls Tryd.prog 45 #[.agg #[.int .i64 m0, .int .i64 m1, .slice none n c], .int .i64 i] w (LineNil w) := by
  have hu43 := Tryd.underlying43
  go_enter Tryd.func45, Tryd.ntmps45
  go_wp2
  go_ret
  exact ⟨⟨_, _, rfl⟩, (Below.refl _ _).alloc (Nat.le_refl _) _⟩

def mat_Row.L : List Int := [2, 12]
def mat_Row.f (m0 m1 : Int) (l : List Int) (a1 : Int) : Option (List Int × Option Int) :=
  (mat_Check.f m0 m1 l).bind fun t => if t.isNone = true then (if a1 < 0 then some ([], some 12) else if a1 ≥ m0 then some ([], some 12) else some ((l.drop (a1 * m1).toNat).take m1.toNat, none)) else some ([], some (t.getD 0))

omit [Errs] in
theorem mat_Check_none {m0 m1 : Int} {l : List Int} (h : mat_Check.f m0 m1 l = some none) : 0 ≤ m0 ∧ m0 ≤ 64 ∧ 0 ≤ m1 ∧ m1 ≤ 64 ∧ (l.length : Int) = m0 * m1 := by
  unfold mat_Check.f mat_sized.f at h
  by_cases h0 : m0 ≥ 0
  · by_cases h1 : m1 ≥ 0
    · by_cases h2 : m0 ≤ 64
      · by_cases h3 : m1 ≤ 64
        · simp [h0, h1, h2, h3] at h
          have b0 : 0 ≤ m0 * m1 := Int.mul_nonneg h0 h1
          have b1 : m0 * m1 ≤ 64 * 64 := Int.mul_le_mul h2 h3 h1 (by omega)
          have : wrap64 (m0 * m1) = m0 * m1 := by unfold wrap64; omega
          rw [this] at h
          exact ⟨h0, h2, h1, h3, h⟩
        · simp [h0, h1, h2, h3] at h
      · simp [h0, h2] at h
    · by_cases h2 : m0 ≤ 64 <;> simp [h0, h1, h2] at h
  · simp [h0] at h

/-- The call of mat.line within a matrix in form. -/
theorem mat_line_in {m0 m1 : Int} {A : Option Addr} {c : Nat} {l : List Int} {i : Int} {w : World} (hr : Kd.C (Kd.int .u8) w A l.length l) (hc : l.length ≤ c)
    (hf : 0 ≤ m0 ∧ m0 ≤ 64 ∧ 0 ≤ m1 ∧ m1 ≤ 64 ∧ (l.length : Int) = m0 * m1) (h0 : 0 ≤ i) (h1 : i < m0) :
    Calls Tryd.prog 45 #[.agg #[.int .i64 m0, .int .i64 m1, .slice A l.length c], .int .i64 i] w (fun e w' =>
      (∃ A' c', m1.toNat ≤ c' ∧ e = .returned (.slice A' m1.toNat c') ∧ CutOf .u8 A l.length l (i * m1).toNat ((i * m1).toNat + m1.toNat) A') ∧ Below w.heap.size w w') := by
  obtain ⟨a0, a1, a2, a3, a4⟩ := hf
  have b0 : 0 ≤ i * m1 := Int.mul_nonneg h0 a2
  have b1 : i * m1 ≤ 63 * 64 := Int.mul_le_mul (by omega) a3 a2 (by omega)
  have b2 : (i + 1) * m1 = i * m1 + m1 := by rw [Int.add_mul]; omega
  have b3 : (i + 1) * m1 ≤ m0 * m1 := Int.mul_le_mul_of_nonneg_right (by omega) a2
  have w1 : wrap64 (i + 1) = i + 1 := by unfold wrap64; omega
  have w2 : wrap64 (i * m1) = i * m1 := by unfold wrap64; omega
  have w3 : wrap64 (wrap64 (i + 1) * m1) = i * m1 + m1 := by rw [w1, b2]; unfold wrap64; omega
  cases A with
  | some ad =>
    refine (mat_line_some m0 m1 ad l.length c i (i * m1) (i * m1 + m1) w w2 w3 b0 (by omega) (by omega)).mono ?_
    rintro e w' ⟨⟨A', rfl, hA⟩, hb⟩
    have e1 : (i * m1 + m1).toNat = (i * m1).toNat + m1.toNat := by omega
    rw [e1, Nat.add_sub_cancel_left]
    refine ⟨⟨A', _, Nat.le_refl _, rfl, fun W hW => ?_⟩, hb⟩
    rcases hA with rfl | hz
    · exact C_cut hW _ _ (by omega) (by omega)
    · have hz' : m1.toNat = 0 := by omega
      rw [hz', Nat.add_zero, Nat.sub_self, List.take_zero]
      exact C_cut_nil
  | none =>
    have hl : l.length = 0 := by
      rcases Nat.eq_zero_or_pos l.length with h | h
      · exact h
      · obtain ⟨ad, e, _⟩ := hr.2.2 h; cases e
    have z1 : m1 = 0 := by
      rcases Int.lt_or_le 0 m1 with h | h
      · have : 0 < m0 * m1 := Int.mul_pos (by omega) h
        omega
      · omega
    subst z1
    refine (mat_line_none m0 0 l.length c i w (by rw [w2]; simp) (by rw [w3]; simp)).mono ?_
    rintro e w' ⟨⟨A', c', rfl⟩, hb⟩
    exact ⟨⟨A', c', by simp, rfl, fun W _ => by simpa using C_cut_nil⟩, hb⟩

def RowPost (w : World) (r1 : List Int) (r2 : Option Int) (e : Ending) (w' : World) : Prop :=
  ∃ v0_ : Value, e = .returned (.tuple #[v0_, errW r2]) ∧ Kd.R (Kd.int .u8) 5 w' w.heap.size (fun _ => True) v0_ r1 ∧ Below w.heap.size w w'

set_option maxHeartbeats 1600000 in
set_option maxRecDepth 100000 in
theorem mat_Row.calls (a0_0 : Int) (a0_1 : Int) (A0_2 : Option Addr) (c0_2 : Nat) (l0_2 : List Int) (a1 : Int) (r1 : List Int) (r2 : Option Int) (w : World) (hr0_2 : Kd.C (Kd.int .u8) w A0_2 l0_2.length l0_2) (hc0_2 : l0_2.length ≤ c0_2) (h : mat_Row.f a0_0 a0_1 l0_2 a1 = some (r1, r2)) (hS : Sent mat_Row.L w) :
    Calls Tryd.prog 28 #[.agg #[.int .i64 a0_0, .int .i64 a0_1, .slice A0_2 l0_2.length c0_2], .int .i64 a1] w (RowPost w r1 r2) := by
  have hu43 := Tryd.underlying43
  have hu27 := Tryd.underlying27
  have HR := Aside0.mk hr0_2
  have HC := Aside0.mk hc0_2
  have HS := Aside0.mk hS
  have hgl2 := Sent.cell hS 12 2 rfl (by decide)
  simp only [errW_some] at hgl2
  clear hr0_2 hc0_2 hS
  unfold mat_Row.f at h
  obtain ⟨t, hA, h⟩ := Option.bind_eq_some_iff.mp h
  have A1 := Aside0.mk hA
  clear hA
  cases t with
  | some c =>
    rw [if_neg (show ¬ (some c).isNone = true by simp)] at h
    obtain ⟨rfl, rfl⟩ : ([] : List Int) = r1 ∧ some c = r2 := by simpa using h
    clear h
    go_enter Tryd.func28, Tryd.ntmps28
    go_wp2_with (go_at_call 43; refine (mat_Check.calls a0_0 a0_1 _ _ l0_2 (some c) _ (Kd.C_alloc HR.out _) HC.out A1.out (Sent.sub (show ∀ c, c ∈ mat_Check.L → c ∈ mat_Row.L by decide) (HS.out.below ((Below.refl _ _).alloc (Nat.le_refl _) _)))).mono ?_; rintro e w1 ⟨rfl, hb⟩; have HB := Aside0.mk (below_step (below_alloc (Below.refl _ _) _) hb); clear hb; simp only [errW_some])
    go_ret2
    exact ⟨_, rfl, Kd.R_nil _ _ _ _ _, HB.out⟩
  | none =>
    rw [if_pos (show (none : Option Int).isNone = true by rfl)] at h
    have hf := Aside0.mk (mat_Check_none A1.out)
    by_cases h0 : a1 < 0
    · rw [if_pos h0] at h
      obtain ⟨rfl, rfl⟩ : ([] : List Int) = r1 ∧ some 12 = r2 := by simpa using h
      clear h
      go_enter Tryd.func28, Tryd.ntmps28
      go_wp2_with (go_at_call 43; refine (mat_Check.calls a0_0 a0_1 _ _ l0_2 none _ (Kd.C_alloc HR.out _) HC.out A1.out (Sent.sub (show ∀ c, c ∈ mat_Check.L → c ∈ mat_Row.L by decide) (HS.out.below ((Below.refl _ _).alloc (Nat.le_refl _) _)))).mono ?_; rintro e w1 ⟨rfl, hb⟩; have hblk := (hb.block w.heap.size (by simp)).trans (heap_alloc_new w _); have hc0 : w1.cell? ⟨w.heap.size, 0, none⟩ = some (.int .i64 a0_0) := (blk_cell hblk 0).trans rfl; have hc1 : w1.cell? ⟨w.heap.size, 1, none⟩ = some (.int .i64 a0_1) := (blk_cell hblk 1).trans rfl; have hc2 : w1.cell? ⟨w.heap.size, 2, none⟩ = some (.slice A0_2 l0_2.length c0_2) := (blk_cell hblk 2).trans rfl; clear hblk; have HB := Aside0.mk (below_step (below_alloc (Below.refl _ _) _) hb); have HB1 := Aside0.mk hb; clear hb; simp only [errW_none])
      go_quiet (fail)
      go_wp2
      go_ret2
      exact ⟨_, rfl, Kd.R_nil _ _ _ _ _, by repeat (first | exact HB.out | apply pw_below_drewN | apply below_drew1)⟩
    by_cases h1 : a1 ≥ a0_0
    · rw [if_neg h0, if_pos h1] at h
      obtain ⟨rfl, rfl⟩ : ([] : List Int) = r1 ∧ some 12 = r2 := by simpa using h
      clear h
      go_enter Tryd.func28, Tryd.ntmps28
      go_wp2_with (go_at_call 43; refine (mat_Check.calls a0_0 a0_1 _ _ l0_2 none _ (Kd.C_alloc HR.out _) HC.out A1.out (Sent.sub (show ∀ c, c ∈ mat_Check.L → c ∈ mat_Row.L by decide) (HS.out.below ((Below.refl _ _).alloc (Nat.le_refl _) _)))).mono ?_; rintro e w1 ⟨rfl, hb⟩; have hblk := (hb.block w.heap.size (by simp)).trans (heap_alloc_new w _); have hc0 : w1.cell? ⟨w.heap.size, 0, none⟩ = some (.int .i64 a0_0) := (blk_cell hblk 0).trans rfl; have hc1 : w1.cell? ⟨w.heap.size, 1, none⟩ = some (.int .i64 a0_1) := (blk_cell hblk 1).trans rfl; have hc2 : w1.cell? ⟨w.heap.size, 2, none⟩ = some (.slice A0_2 l0_2.length c0_2) := (blk_cell hblk 2).trans rfl; clear hblk; have HB := Aside0.mk (below_step (below_alloc (Below.refl _ _) _) hb); have HB1 := Aside0.mk hb; clear hb; simp only [errW_none])
      go_quiet (fail)
      go_wp2
      go_ret2
      exact ⟨_, rfl, Kd.R_nil _ _ _ _ _, by repeat (first | exact HB.out | apply pw_below_drewN | apply below_drew1)⟩
    · rw [if_neg h0, if_neg h1] at h
      obtain ⟨hr1, rfl⟩ : (l0_2.drop (a1 * a0_1).toNat).take a0_1.toNat = r1 ∧ none = r2 := by simpa using h
      clear h
      have hlen : r1.length = a0_1.toNat := by
        obtain ⟨b0, b1, b2, b3, b4⟩ := hf.out
        have c0 : 0 ≤ a1 * a0_1 := Int.mul_nonneg (by omega) b2
        have c1 : (a1 + 1) * a0_1 ≤ a0_0 * a0_1 := Int.mul_le_mul_of_nonneg_right (by omega) b2
        have c2 : (a1 + 1) * a0_1 = a1 * a0_1 + a0_1 := by rw [Int.add_mul]; omega
        rw [← hr1, List.length_take, List.length_drop]
        omega
      have hlt : ([] : List Int).length + r1.length < 140737488355328 := by have := hf.out; simp; omega
      have HLt := Aside0.mk hlt
      have Hl := Aside0.mk hlen
      have Hr1 := Aside0.mk hr1
      have h0' := Aside0.mk (show 0 ≤ a1 by omega)
      have h1' := Aside0.mk (show a1 < a0_0 by omega)
      clear hlen hr1 hlt
      go_enter Tryd.func28, Tryd.ntmps28
      go_wp2_with (first
        | (go_at_call 43; refine (mat_Check.calls a0_0 a0_1 _ _ l0_2 none _ (Kd.C_alloc HR.out _) HC.out A1.out (Sent.sub (show ∀ c, c ∈ mat_Check.L → c ∈ mat_Row.L by decide) (HS.out.below ((Below.refl _ _).alloc (Nat.le_refl _) _)))).mono ?_; rintro e w1 ⟨rfl, hb⟩; have hblk := (hb.block w.heap.size (by simp)).trans (heap_alloc_new w _); have hc0 : w1.cell? ⟨w.heap.size, 0, none⟩ = some (.int .i64 a0_0) := (blk_cell hblk 0).trans rfl; have hc1 : w1.cell? ⟨w.heap.size, 1, none⟩ = some (.int .i64 a0_1) := (blk_cell hblk 1).trans rfl; have hc2 : w1.cell? ⟨w.heap.size, 2, none⟩ = some (.slice A0_2 l0_2.length c0_2) := (blk_cell hblk 2).trans rfl; clear hblk; have HB := Aside0.mk (below_step (below_alloc (Below.refl _ _) _) hb); clear hb; simp only [errW_none])
        | (go_at_call 45; refine (mat_line_in (Kd.C_below HR.out HB.out) HC.out hf.out h0'.out h1'.out).mono ?_; rintro e w2 ⟨⟨A', c', hle, rfl, hcut⟩, hb⟩; have HB2 := Aside0.mk (below_step HB.out hb); have HCut := Aside0.mk hcut; have Hle := Aside0.mk hle; clear hb hcut hle)
        | (go_at_call 44; rw [← Hl.out]; refine (slices_Clone_byte_byte.calls A' c' r1 r1 w2 (by have := HCut.out _ (Kd.C_below HR.out HB2.out); rw [Nat.add_sub_cancel_left, Hr1.out] at this; rw [Hl.out]; exact this) (by rw [Hl.out]; exact Hle.out) (by unfold slices_Clone_byte_byte.f; rw [Option.bind_some, if_pos HLt.out, List.nil_append])).mono ?_; rintro e w3 ⟨v, rfl, ho, hb⟩; have HB3 := Aside0.mk (below_step HB2.out hb); have HO := Aside0.mk (Kd.R_lower ho (below_size HB2.out)); clear hb ho))
      go_ret2
      exact ⟨_, rfl, HO.out, HB3.out⟩

end Go.Proofs.YtnnondbimdmcaaaDoor
