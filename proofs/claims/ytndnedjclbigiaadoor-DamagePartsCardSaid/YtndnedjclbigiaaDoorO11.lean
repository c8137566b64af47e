/- What some functions come to, each a function of its own text; joined out of: L10, D2, D3. No conditions but those in each theorem. -/
import Derived.Test.YtndnedjclbigiaaDoorO8
import Derived.Test.YtndnedjclbigiaaDoorO10
import Derived.Test.YtndnedjclbigiaaDoorO5
import Derived.Test.YtndnedjclbigiaaDoorO6
namespace Go.Proofs.YtndnedjclbigiaaDoor.Lin
open Go.RowKit Go.Proofs.YtndnedjclbigiaaDoorW.PrintWords Go.Proofs.YtndnedjclbigiaaDoorW.PrintLast Go.Proofs.YtndnedjclbigiaaDoor.F Go.Proofs.YtndnedjclbigiaaDoor.Plain
set_option linter.unusedVariables false
attribute [local instance] linErrs

theorem inv_tab : ((List.range 32).all fun x => (x == 0 || decide (ph (invTab.getD x 0) = inv (BitVec.ofNat 8 x))) && decide (0 ≤ invTab.getD x 0) && decide (invTab.getD x 0 < 256)) = true := by kernel_rfl
theorem inv_tab_byte (x : Nat) : byte (invTab.getD x 0) := by
  rcases Nat.lt_or_ge x 32 with h | h
  · have := List.all_eq_true.1 inv_tab x (List.mem_range.2 h)
    rw [Bool.and_eq_true, Bool.and_eq_true] at this
    exact ⟨of_decide_eq_true this.1.2, of_decide_eq_true this.2⟩
  · have : invTab.length = 32 := rfl
    rw [List.getD_eq_getElem?_getD, List.getElem?_eq_none (by omega)]; exact ⟨by simp, by simp⟩
theorem inv_tab_of (s j : Nat) (hs : s < 16) (hj : j < 16) (hne : s ≠ j) : ph (invTab.getD (s ^^^ j) 0) = inv (BitVec.ofNat 8 s ^^^ BitVec.ofNat 8 j) := by
  have hx : s ^^^ j < 2 ^ 5 := Nat.xor_lt_two_pow (by omega) (by omega)
  have hz : s ^^^ j ≠ 0 := by
    intro e
    apply hne
    have : s ^^^ j ^^^ j = 0 ^^^ j := by rw [e]
    rwa [Nat.xor_assoc, Nat.xor_self, Nat.xor_zero, Nat.zero_xor] at this
  have := List.all_eq_true.1 inv_tab (s ^^^ j) (List.mem_range.2 (by omega))
  rw [Bool.and_eq_true, Bool.and_eq_true] at this
  have hb : ((s ^^^ j) == 0) = false := by simpa using hz
  rw [hb, Bool.false_or] at this
  rw [of_decide_eq_true this.1.1, BitVec.ofNat_xor]

theorem co_rsp {a b h t : Nat} (ht : t < 2 * a) : co (rsp a b h) t = ph (if h / 2 < a then (if t = h then 1 else 0) else
  if t % 2 = h % 2 then invTab.getD ((h / 2) ^^^ (t / 2)) 0 else
  if h % 2 = 0 then 0 else if a < h / 2 ∧ (h / 2 - a - 1) * ((a + b - 2) / (b - 1)) ≤ t / 2 ∧ t / 2 < (h / 2 - a) * ((a + b - 2) / (b - 1)) then 1 else 0) := by
  unfold co rsp
  rw [List.getD_eq_getElem?_getD, List.getElem?_map, List.getElem?_range ht]
  rfl
theorem rsp_good (a b h : Nat) : (rsp a b h).length = 2 * a ∧ bytes (rsp a b h) := by
  refine ⟨by simp [rsp], fun x hx => ?_⟩
  obtain ⟨t, _, rfl⟩ := List.mem_map.1 hx
  have b0 : byte 0 := ⟨by omega, by omega⟩
  have b1 : byte 1 := ⟨by omega, by omega⟩
  split
  · split
    · exact b1
    · exact b0
  · split
    · exact inv_tab_byte _
    · split
      · exact b0
      · split
        · exact b1
        · exact b0
theorem half_row_of {a b h : Nat} (hl : legalB a b = true) (hh : h < 2 * (a + b)) (K : Nat) (hK : 80 ≤ K) : half_row.f K (a : Int) (b : Int) ((h / 2 : Nat) : Int) ((h % 2 : Nat) : Int) (b : Int) (a : Int) (pof2 a b) = some (rsp a b h) := by
  have hl' : (1 ≤ a ∧ 2 ≤ b) ∧ a + b ≤ 16 := by simpa [legalB] using hl
  have h1 := List.all_eq_true.1 (sp2_all a (by omega)) b (List.mem_range.2 (by omega))
  rw [hl, Bool.not_true, Bool.false_or] at h1
  exact at_rounds (g := fun K => half_row.f K (a : Int) (b : Int) ((h / 2 : Nat) : Int) ((h % 2 : Nat) : Int) (b : Int) (a : Int) (pof2 a b)) (half_row.mono _ _ _ _ _ _ _) hK (of_decide_eq_true (List.all_eq_true.1 h1 h (List.mem_range.2 hh)))
theorem parity_of {a b : Nat} (hl : legalB a b = true) (K : Nat) (hK : 320 ≤ K) : base_Parity.f K (a : Int) (b : Int) = some ((b : Int), (a : Int), pof2 a b, none) := by
  have hl' : (1 ≤ a ∧ 2 ≤ b) ∧ a + b ≤ 16 := by simpa [legalB] using hl
  have h1 := List.all_eq_true.1 (par2_all a (by omega)) b (List.mem_range.2 (by omega))
  rw [hl, Bool.not_true, Bool.false_or] at h1
  exact at_rounds (g := fun K => base_Parity.f K (a : Int) (b : Int)) (base_Parity.mono _ _) hK (parT_le 300 _ _ _ (of_decide_eq_true h1))
theorem half_at_of (h : Nat) (hh : h < 64) : half_at.f (h : Int) = some (((h / 2 : Nat) : Int), ((h % 2 : Nat) : Int)) := by
  unfold half_at.f
  have e1 : Int.tdiv (h : Int) 2 = ((h / 2 : Nat) : Int) := by rw [Int.tdiv_eq_ediv_of_nonneg (by omega)]; omega
  have e2 : Int.tmod (h : Int) 2 = ((h % 2 : Nat) : Int) := by rw [Int.tmod_eq_emod_of_nonneg (by omega)]; omega
  rw [e1, e2]
  have : wrap64 ((h / 2 : Nat) : Int) = ((h / 2 : Nat) : Int) := by unfold wrap64; omega
  rw [this]
theorem half_rows_ (a b : Nat) (hl : legalB a b = true) : HalfRows_ a (a + b) (rsp a b) := by
  have hl' : (1 ≤ a ∧ 2 ≤ b) ∧ a + b ≤ 16 := by simpa [legalB] using hl
  refine ⟨by omega, by omega, fun s hs j hj => ?_, fun s hs j hj => ?_, fun s hs hn j hj => ⟨?_, ?_⟩, fun s hs hn j hj => ?_⟩
  · rw [co_rsp hj, if_pos (by omega)]
    by_cases e : j = 2 * s
    · rw [if_pos e, if_pos e]; rfl
    · rw [if_neg e, if_neg e]; rfl
  · rw [co_rsp hj, if_pos (by omega)]
    by_cases e : j = 2 * s + 1
    · rw [if_pos e, if_pos e]; rfl
    · rw [if_neg e, if_neg e]; rfl
  · rw [co_rsp (by omega), if_neg (by omega), if_pos (by omega), show 2 * s / 2 = s by omega, show 2 * j / 2 = j by omega]
    exact inv_tab_of s j (by omega) (by omega) (by omega)
  · rw [co_rsp (by omega), if_neg (by omega), if_neg (by omega), if_pos (by omega)]; rfl
  · rw [co_rsp (by omega), if_neg (by omega), if_pos (by omega), show (2 * s + 1) / 2 = s by omega, show (2 * j + 1) / 2 = j by omega]
    exact inv_tab_of s j (by omega) (by omega) (by omega)

/-- All halves' rows as a list of rows. -/
def hrows (a b : Nat) : List (List Int) := (List.range (2 * (a + b))).map (rsp a b)
theorem hrows_len (a b : Nat) : (hrows a b).length = 2 * (a + b) := by simp [hrows]
theorem hrows_good (a b : Nat) : good (2 * a) (hrows a b) := by
  intro r hr
  obtain ⟨h, _, rfl⟩ := List.mem_map.1 hr
  exact rsp_good a b h
theorem hrows_row {a b h : Nat} (hh : h < 2 * (a + b)) : row (hrows a b) h = rsp a b h := by
  unfold row hrows
  rw [List.getD_eq_getElem?_getD, List.getElem?_map, List.getElem?_range hh]; rfl
theorem half_rows_l0 {a b : Nat} (hl : legalB a b = true) (K : Nat) (hK : 80 ≤ K) : ∀ (d i : Nat), i + d = 2 * (a + b) →
    half_Rows.l0 (K + d + 1) (a : Int) (b : Int) ((hrows a b).take i) ((2 * (a + b) : Nat) : Int) (i : Int) (b : Int) (a : Int) (pof2 a b) =
      (mat_Of.f K (wrap64 (2 * (a : Int))) (hrows a b)).bind fun bt293 => (some (bt293.1, bt293.2.1, bt293.2.2.1, bt293.2.2.2)) := by
  have hl' : (1 ≤ a ∧ 2 ≤ b) ∧ a + b ≤ 16 := by simpa [legalB] using hl
  intro d
  induction d with
  | zero =>
    intro i hi
    rw [Nat.add_zero, half_Rows.l0, if_neg (by omega), List.take_of_length_le (by rw [hrows_len]; omega)]
  | succ d ih =>
    intro i hi
    have e : K + (d + 1) + 1 = (K + d + 1) + 1 := by omega
    have hil : i < (hrows a b).length := by rw [hrows_len]; omega
    rw [e, half_Rows.l0, if_pos (by omega), half_at_of i (by omega), Option.bind_some, half_row_of hl (by omega) (K + d + 1) (by omega), Option.bind_some, if_pos (by rw [List.length_take, hrows_len]; omega)]
    have hw : wrap64 ((i : Int) + 1) = ((i + 1 : Nat) : Int) := by unfold wrap64; omega
    have e2 : (hrows a b).take i ++ [rsp a b i] = (hrows a b).take (i + 1) := by
      rw [List.take_succ_eq_append_getElem hil]
      congr 1
      simp [hrows]
    rw [hw, e2]
    exact ih (i + 1) (by omega)
theorem half_rows_flat (a b : Nat) (hl : legalB a b = true) (K : Nat) (hK : 700 ≤ K) :
    half_Rows.f K (a : Int) (b : Int) = some (((hrows a b).length : Int), ((2 * a : Nat) : Int), (hrows a b).flatten, none) := by
  have hl' : (1 ≤ a ∧ 2 ≤ b) ∧ a + b ≤ 16 := by simpa [legalB] using hl
  obtain ⟨J, hJ, rfl⟩ : ∃ J, 80 ≤ J ∧ K = J + 2 * (a + b) + 1 := ⟨K - 2 * (a + b) - 1, by omega, by omega⟩
  unfold half_Rows.f
  have hw : wrap64 (2 * wrap64 ((a : Int) + (b : Int))) = ((2 * (a + b) : Nat) : Int) := by unfold wrap64; omega
  have hw2 : wrap64 (2 * (a : Int)) = ((2 * a : Nat) : Int) := by unfold wrap64; omega
  rw [parity_of hl _ (by omega), Option.bind_some, if_pos (show (none : Option Int).isNone = true by rfl), hw]
  have h0 := half_rows_l0 hl J hJ (2 * (a + b)) 0 (by omega)
  rw [List.take_zero, show ((0 : Nat) : Int) = 0 by rfl] at h0
  rw [h0, hw2, mat_of_of (hrows_good a b) (by omega) (by rw [hrows_len]; omega) J (by rw [hrows_len]; omega)]
  rfl

/-- The halves of some shards. -/
def hidx (S : List Nat) : List Nat := S.flatMap fun s => [2 * s, 2 * s + 1]
theorem hidx_len (S : List Nat) : (hidx S).length = 2 * S.length := by
  induction S with
  | nil => rfl
  | cons s S ih => show ([2 * s, 2 * s + 1] ++ hidx S).length = _; rw [List.length_append, ih, List.length_cons, List.length_cons, List.length_cons, List.length_nil]; omega
theorem hidx_mem {S : List Nat} {i : Nat} : i ∈ hidx S ↔ i / 2 ∈ S := by
  unfold hidx
  rw [List.mem_flatMap]
  constructor
  · rintro ⟨s, hs, h⟩
    have : i = 2 * s ∨ i = 2 * s + 1 := by simpa using h
    have e : i / 2 = s := by omega
    rw [e]; exact hs
  · intro h
    refine ⟨i / 2, h, ?_⟩
    have : i = 2 * (i / 2) ∨ i = 2 * (i / 2) + 1 := by omega
    rcases this with e | e
    · rw [← e]; simp
    · rw [← e]; simp
/-- Any a shards' halves have full rank. -/
theorem shards_rank (a b : Nat) (hl : legalB a b = true) (S : List Nat) (hS : S.Nodup) (hSl : S.length = a) (hlt : ∀ s, s ∈ S → s < a + b) (K : Nat) (hK : 300 ≤ K) :
    solve_Rank.f K (((hidx S).map (row (hrows a b))).length : Int) ((2 * a : Nat) : Int) ((hidx S).map (row (hrows a b))).flatten = some (((2 * a : Nat) : Int), none) := by
  have hl' : (1 ≤ a ∧ 2 ≤ b) ∧ a + b ≤ 16 := by simpa [legalB] using hl
  have hx : ∀ i, i ∈ hidx S → i < (hrows a b).length := fun i hi => by
    have := hlt _ (hidx_mem.1 hi)
    rw [hrows_len]; omega
  obtain ⟨q, h1, h2, h3⟩ := rank_of (good_take (hrows_good a b) (hidx S) hx) (by omega) (by rw [List.length_map, hidx_len]; omega) K hK
  have ht : Triv (2 * a) ((hidx S).map (row (hrows a b))) := by
    intro v hv
    refine shards_triv (half_rows_ a b hl) S hS hSl hlt v (fun s hs => ⟨?_, ?_⟩)
    · have := hv (row (hrows a b) (2 * s)) (List.mem_map.2 ⟨2 * s, hidx_mem.2 (by rw [show 2 * s / 2 = s by omega]; exact hs), rfl⟩)
      rwa [hrows_row (by have := hlt s hs; omega)] at this
    · have := hv (row (hrows a b) (2 * s + 1)) (List.mem_map.2 ⟨2 * s + 1, hidx_mem.2 (by rw [show (2 * s + 1) / 2 = s by omega]; exact hs), rfl⟩)
      rwa [hrows_row (by have := hlt s hs; omega)] at this
  have := h3.2 ht
  subst this
  exact h1
end Go.Proofs.YtndnedjclbigiaaDoor.Lin

namespace Go.Proofs.YtndnedjclbigiaaDoor.Lin
open Go.RowKit Go.Proofs.YtndnedjclbigiaaDoorW.PrintWords Go.Proofs.YtndnedjclbigiaaDoorW.PrintLast Go.Proofs.YtndnedjclbigiaaDoor.F Go.Proofs.YtndnedjclbigiaaDoor.Plain Go.Proofs.YtndnedjclbigiaaDoor.D
set_option linter.unusedVariables false
attribute [local instance] linErrs

/-- A list of lost halves among n. -/
def GoodL (n : Nat) (l : List Int) : Prop := (∀ x, x ∈ l → 0 ≤ x ∧ x < (n : Int)) ∧ l.Pairwise (· < ·)
theorem rd_nat {l : List Int} {i : Nat} (h : i < l.length) : rd l (i : Int) = l[i] := by unfold rd; rw [Int.toNat_natCast]; simp [h]
theorem good_step {n : Nat} {l : List Int} (h : GoodL n l) {i : Nat} (h0 : 0 < i) (h1 : i < l.length) : l[i - 1]'(by omega) < l[i] := List.pairwise_iff_getElem.1 h.2 (i - 1) i (by omega) h1 (by omega)
theorem good_len {n : Nat} {l : List Int} (h : GoodL n l) : l.length ≤ n := by
  have h1 : (l.map Int.toNat).Nodup := by
    rw [List.Nodup, List.pairwise_map]
    refine List.Pairwise.imp_of_mem (fun {a b} ha hb hab => ?_) h.2
    have := h.1 a ha
    have := h.1 b hb
    omega
  have h2 := mem_count n (l.map Int.toNat) h1 (fun d hd => by
    obtain ⟨x, hx, rfl⟩ := List.mem_map.1 hd
    have := h.1 x hx; omega)
  rw [List.length_map] at h2
  rw [← h2]
  exact Nat.le_trans (List.length_filter_le _ _) (by rw [List.length_range]; exact Nat.le_refl _)

section
variable {a b : Nat} {l : List Int}
theorem check_l0 (hab : a + b ≤ 16) (h : GoodL (2 * (a + b)) l) : ∀ (d i : Nat) (K : Nat), i + d = l.length → d < K → damage_Check.l0 K (a : Int) (b : Int) l l (l.length : Int) (i : Int) = some none := by
  intro d
  have hw : wrap64 (2 * (wrap64 ((a : Int) + (b : Int)))) = ((2 * (a + b) : Nat) : Int) := by unfold wrap64; omega
  have hlen := good_len h
  induction d with
  | zero =>
    intro i K hi hK
    obtain ⟨K, rfl⟩ : ∃ m, K = m + 1 := ⟨K - 1, by omega⟩
    rw [damage_Check.l0, if_neg (by omega)]
  | succ d ih =>
    intro i K hi hK
    obtain ⟨K, rfl⟩ : ∃ m, K = m + 1 := ⟨K - 1, by omega⟩
    have hil : i < l.length := by omega
    have hx := h.1 _ (List.getElem_mem hil)
    have hwi : wrap64 ((i : Int) + 1) = ((i + 1 : Nat) : Int) := by unfold wrap64; omega
    have hrec := ih (i + 1) K (by omega) (by omega)
    rw [damage_Check.l0, if_pos (by omega), if_pos (by omega), if_pos (by omega), rd_nat hil, if_neg (by omega), hw, if_neg (by omega), hwi]
    by_cases h0 : (i : Int) > 0
    · have hwm : wrap64 ((i : Int) - 1) = ((i - 1 : Nat) : Int) := by unfold wrap64; omega
      have hst := good_step h (show 0 < i by omega) hil
      rw [if_pos h0, hwm, if_pos (by omega), if_pos (by omega), rd_nat (show i - 1 < l.length by omega), if_neg (by omega)]
      exact hrec
    · rw [if_neg h0]; exact hrec
theorem check_good (hl : legalB a b = true) (h : GoodL (2 * (a + b)) l) (K : Nat) (hK : 100 ≤ K) : damage_Check.f K (a : Int) (b : Int) l = some none := by
  have hl' : (1 ≤ a ∧ 2 ≤ b) ∧ a + b ≤ 16 := by simpa [legalB] using hl
  have hlen := good_len h
  have hc : base_Check.f (a : Int) (b : Int) = some none := by
    rcases legal_cases (a : Int) (b : Int) with ⟨A, B, e1, e2, _, _, h3⟩ | ⟨h1, h2⟩
    · exact h3
    · exfalso
      unfold tesseraref04_Legal.f at h1
      have : wrap64 ((a : Int) + (b : Int)) = (a : Int) + (b : Int) := by unfold wrap64; omega
      rw [if_pos (by omega), if_pos (by omega), if_pos (by omega), if_pos (by omega), this, decide_eq_true (by omega)] at h1
      cases h1
  unfold damage_Check.f
  rw [hc, Option.bind_some, if_pos (by rfl)]
  exact check_l0 hl'.2 h l.length 0 K (by omega) (by omega)

/-- The shards both of whose halves stand one behind the other. -/
def wscan : Option Int → List Int → List Int
  | _, [] => []
  | p, h :: t => (if h % 2 = 1 ∧ p = some (h - 1) then [h / 2] else []) ++ wscan (some h) t
def prev (l : List Int) (i : Nat) : Option Int := if i = 0 then none else l[i - 1]?
theorem whole_l0 {n : Nat} (hn : n ≤ 1000) (h : GoodL n l) : ∀ (d i : Nat) (K : Nat) (acc : List Int), i + d = l.length → d < K → acc.length ≤ i → damage_Whole.l0 K l acc l (l.length : Int) (i : Int) = some (acc ++ wscan (prev l i) (l.drop i), none) := by
  intro d
  have hlen := good_len h
  induction d with
  | zero =>
    intro i K acc hi hK ha
    obtain ⟨K, rfl⟩ : ∃ m, K = m + 1 := ⟨K - 1, by omega⟩
    rw [damage_Whole.l0, if_neg (by omega), List.drop_eq_nil_of_le (by omega), wscan, List.append_nil]
  | succ d ih =>
    intro i K acc hi hK ha
    obtain ⟨K, rfl⟩ : ∃ m, K = m + 1 := ⟨K - 1, by omega⟩
    have hil : i < l.length := by omega
    have hx := h.1 _ (List.getElem_mem hil)
    have hwi : wrap64 ((i : Int) + 1) = ((i + 1 : Nat) : Int) := by unfold wrap64; omega
    have hpn : prev l (i + 1) = some l[i] := by unfold prev; rw [if_neg (by omega)]; simp [hil]
    have hrec := ih (i + 1) K acc (by omega) (by omega) (by omega)
    rw [hpn] at hrec
    have ht : Int.tmod l[i] 2 = l[i] % 2 := Int.tmod_eq_emod_of_nonneg hx.1
    have htd : Int.tdiv l[i] 2 = l[i] / 2 := Int.tdiv_eq_ediv_of_nonneg hx.1
    rw [damage_Whole.l0, if_pos (by omega), if_pos (by omega), if_pos (by omega), rd_nat hil, ht, htd, hwi, List.drop_eq_getElem_cons hil, wscan]
    by_cases h2 : l[i] % 2 = 1
    · rw [if_pos h2]
      by_cases h0 : (i : Int) > 0
      · have hwm : wrap64 ((i : Int) - 1) = ((i - 1 : Nat) : Int) := by unfold wrap64; omega
        have hwx : wrap64 (l[i] - 1) = l[i] - 1 := by unfold wrap64; omega
        have hwd : wrap64 (l[i] / 2) = l[i] / 2 := by unfold wrap64; omega
        have hp : prev l i = some (l[i - 1]'(by omega)) := by unfold prev; rw [if_neg (by omega)]; exact List.getElem?_eq_getElem (by omega)
        rw [if_pos h0, hwm, if_pos (by omega), if_pos (by omega), rd_nat (show i - 1 < l.length by omega), hwx, hp]
        by_cases he : l[i - 1]'(by omega) = l[i] - 1
        · rw [if_pos he, if_pos (by omega), hwd, if_pos ⟨h2, by rw [he]⟩]
          have := ih (i + 1) K (acc ++ [l[i] / 2]) (by omega) (by omega) (by rw [List.length_append, List.length_singleton]; omega)
          rw [hpn, List.append_assoc] at this
          exact this
        · rw [if_neg he, if_neg (fun e => he (Option.some.inj e.2)), List.nil_append]
          exact hrec
      · have hp : prev l i = none := by unfold prev; rw [if_pos (by omega)]
        rw [if_neg h0, hp, if_neg (fun e => by cases e.2), List.nil_append]
        exact hrec
    · rw [if_neg h2, if_neg (fun e => h2 e.1), List.nil_append]
      exact hrec
theorem whole_good (hl : legalB a b = true) (h : GoodL (2 * (a + b)) l) (K : Nat) (hK : 100 ≤ K) : damage_Whole.f K (a : Int) (b : Int) l = some (wscan none l, none) := by
  have hl' : (1 ≤ a ∧ 2 ≤ b) ∧ a + b ≤ 16 := by simpa [legalB] using hl
  have hlen := good_len h
  unfold damage_Whole.f
  rw [check_good hl h K hK, Option.bind_some, if_pos (by rfl)]
  have := whole_l0 (n := 2 * (a + b)) (by omega) h l.length 0 K [] (by omega) (by omega) (by simp)
  simpa [prev] using this

/-- What is left, as indices. -/
def leftN (n : Nat) (l : List Int) : List Nat := (List.range n).filter (fun h => decide ((h : Int) ∉ l))
theorem leftN_map (n : Nat) (l : List Int) : leftL n l = (leftN n l).map (fun i : Nat => (i : Int)) := by
  unfold leftL leftN
  rw [List.filter_map]
  rfl
theorem leftN_mem {n : Nat} {l : List Int} {i : Nat} : i ∈ leftN n l ↔ i < n ∧ (i : Int) ∉ l := by
  unfold leftN; rw [List.mem_filter, List.mem_range, decide_eq_true_eq]
theorem left_good (hl : legalB a b = true) (h : GoodL (2 * (a + b)) l) (K : Nat) (hK : 100 ≤ K) : damage_Left.f K (a : Int) (b : Int) l = some (leftL (2 * (a + b)) l, none) := by
  have hl' : (1 ≤ a ∧ 2 ≤ b) ∧ a + b ≤ 16 := by simpa [legalB] using hl
  unfold damage_Left.f
  rw [check_good hl h K hK, Option.bind_some]
  show (if _ then _ else _) = _
  rw [if_pos ⟨by omega, by omega, by omega, fun x hx => by have := h.1 x hx; omega⟩]
  have e : (2 * ((a : Int) + (b : Int))).toNat = 2 * (a + b) := by omega
  rw [e]

/-- What is gone: no vector but 0 is made 0 by what is left. -/
def Whole_ (a b : Nat) (l : List Int) : Prop := Triv (2 * a) ((leftN (2 * (a + b)) l).map (row (hrows a b)))
theorem gone_good (hl : legalB a b = true) (h : GoodL (2 * (a + b)) l) (K : Nat) (hK : 1000 ≤ K) :
    ∃ g : Bool, damage_Gone.f K (a : Int) (b : Int) l = some (g, none) ∧ (g = false ↔ Whole_ a b l) ∧ ((leftN (2 * (a + b)) l).length < 2 * a → g = true) := by
  have hl' : (1 ≤ a ∧ 2 ≤ b) ∧ a + b ≤ 16 := by simpa [legalB] using hl
  have hx : ∀ i, i ∈ leftN (2 * (a + b)) l → i < (hrows a b).length := fun i hi => by have := (leftN_mem.1 hi).1; rw [hrows_len]; exact this
  have hil : (leftN (2 * (a + b)) l).length ≤ 2 * (a + b) := by
    unfold leftN
    exact Nat.le_trans (List.length_filter_le _ _) (by rw [List.length_range]; exact Nat.le_refl _)
  obtain ⟨q, h1, h2, h3⟩ := rank_of (good_take (hrows_good a b) (leftN (2 * (a + b)) l) hx) (by omega) (by rw [List.length_map]; omega) K (by omega)
  have ht := take_of (hrows_good a b) (by omega) (by rw [hrows_len]; omega) (leftN (2 * (a + b)) l) hx (by omega) K (by omega)
  have hw : wrap64 (2 * (a : Int)) = ((2 * a : Nat) : Int) := by unfold wrap64; omega
  refine ⟨decide ((q : Int) < ((2 * a : Nat) : Int)), ?_, ?_, fun hlt => decide_eq_true ?_⟩
  · unfold damage_Gone.f
    rw [left_good hl h K (by omega), Option.bind_some, if_pos (by rfl), half_rows_flat a b hl K (by omega), Option.bind_some, if_pos (by rfl)]
    show (mat_Take.f K ((hrows a b).length : Int) ((2 * a : Nat) : Int) (hrows a b).flatten (leftL (2 * (a + b)) l)).bind _ = _
    rw [leftN_map, ht, Option.bind_some, if_pos (by rfl)]
    show (solve_Rank.f K _ _ _).bind _ = _
    rw [h1, Option.bind_some, hw]
  · rw [decide_eq_false_iff_not, Whole_, ← h3]
    constructor
    · intro e; have := h2.1; omega
    · intro e; omega
  · have := h2.2; rw [List.length_map] at this; omega
/-- With k shards untouched nothing is gone. -/
theorem whole_of_shards (hl : legalB a b = true) (hu : a ≤ ((List.range (a + b)).filter (fun s => decide (((2 * s : Nat) : Int) ∉ l ∧ ((2 * s + 1 : Nat) : Int) ∉ l))).length) : Whole_ a b l := by
  intro v hv
  have hsub : (((List.range (a + b)).filter (fun s => decide (((2 * s : Nat) : Int) ∉ l ∧ ((2 * s + 1 : Nat) : Int) ∉ l))).take a).Sublist ((List.range (a + b)).filter (fun s => decide (((2 * s : Nat) : Int) ∉ l ∧ ((2 * s + 1 : Nat) : Int) ∉ l))) := List.take_sublist _ _
  have hm : ∀ s, s ∈ ((List.range (a + b)).filter (fun s => decide (((2 * s : Nat) : Int) ∉ l ∧ ((2 * s + 1 : Nat) : Int) ∉ l))).take a → s < a + b ∧ ((2 * s : Nat) : Int) ∉ l ∧ ((2 * s + 1 : Nat) : Int) ∉ l := fun s hs => by
    have := hsub.subset hs
    rw [List.mem_filter, List.mem_range, decide_eq_true_eq] at this
    exact this
  refine shards_triv (half_rows_ a b hl) _ (hsub.nodup (List.Pairwise.filter _ List.nodup_range)) (by rw [List.length_take]; omega) (fun s hs => (hm s hs).1) v (fun s hs => ⟨?_, ?_⟩)
  · have := hv (row (hrows a b) (2 * s)) (List.mem_map.2 ⟨2 * s, leftN_mem.2 ⟨by have := (hm s hs).1; omega, (hm s hs).2.1⟩, rfl⟩)
    rwa [hrows_row (by have := (hm s hs).1; omega)] at this
  · have := hv (row (hrows a b) (2 * s + 1)) (List.mem_map.2 ⟨2 * s + 1, leftN_mem.2 ⟨by have := (hm s hs).1; omega, (hm s hs).2.2⟩, rfl⟩)
    rwa [hrows_row (by have := (hm s hs).1; omega)] at this
/-- What is gone stays gone where more is lost. -/
theorem whole_mono {l' : List Int} (hs : ∀ x, x ∈ l → x ∈ l') (h : Whole_ a b l') : Whole_ a b l := fun v hv => h v (fun r hr => by
  obtain ⟨i, hi, rfl⟩ := List.mem_map.1 hr
  exact hv _ (List.mem_map.2 ⟨i, leftN_mem.2 ⟨(leftN_mem.1 hi).1, fun e => (leftN_mem.1 hi).2 (hs _ e)⟩, rfl⟩))
end
end Go.Proofs.YtndnedjclbigiaaDoor.Lin

namespace Go.Proofs.YtndnedjclbigiaaDoor.Lin
open Go.RowKit Go.Proofs.YtndnedjclbigiaaDoorW.PrintWords Go.Proofs.YtndnedjclbigiaaDoorW.PrintLast Go.Proofs.YtndnedjclbigiaaDoor.F Go.Proofs.YtndnedjclbigiaaDoor.Plain Go.Proofs.YtndnedjclbigiaaDoor.D
set_option linter.unusedVariables false
attribute [local instance] linErrs

theorem alive_ok (K : Nat) (hK : 700 ≤ K) : tesseralaw08_alive.f K = some true := at_rounds (g := fun K => tesseralaw08_alive.f K) (@tesseralaw08_alive.mono linErrs) hK (by kernel_rfl)
/-- Kind, by what Whole tells. -/
theorem kind_good {a b : Nat} {l : List Int} (hl : legalB a b = true) (h : GoodL (2 * (a + b)) l) (K : Nat) (hK : 100 ≤ K) :
    damage_Kind.f K (a : Int) (b : Int) l = some (if l.length = 0 then 0 else if l.length = 2 ∧ (wscan none l).length = 1 ∧ rd (wscan none l) 0 < (a : Int) then 1 else 2, none) := by
  unfold damage_Kind.f
  rw [whole_good hl h K hK, Option.bind_some, if_pos (by rfl)]
  by_cases h0 : l.length = 0
  · rw [if_pos (by omega), if_pos h0]
  · rw [if_neg (by omega), if_neg h0]
    by_cases h2 : l.length = 2
    · rw [if_pos (by omega)]
      by_cases h1 : (wscan none l).length = 1
      · rw [if_pos (show ((wscan none l).length : Int) = 1 by omega), if_pos (show (0 : Int) < ((wscan none l).length : Int) by omega)]
        by_cases hr : rd (wscan none l) 0 < (a : Int)
        · rw [if_pos hr, if_pos ⟨h2, h1, hr⟩]
        · rw [if_neg hr, if_neg (fun e => hr e.2.2)]
      · rw [if_neg (show ¬ ((wscan none l).length : Int) = 1 by omega), if_neg (fun e => h1 e.2.1)]
    · rw [if_neg (by omega), if_neg (fun e => h2 e.1)]
end Go.Proofs.YtndnedjclbigiaaDoor.Lin
