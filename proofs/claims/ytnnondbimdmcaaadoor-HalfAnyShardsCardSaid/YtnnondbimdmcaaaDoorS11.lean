/- What some functions come to, each a function of its own text; joined out of: L10, PureHalfAnyShards. No conditions but those in each theorem. -/
import Derived.Test.YtnnondbimdmcaaaDoorS8
import Derived.Test.YtnnondbimdmcaaaDoorS10
import Derived.Test.YtnnondbimdmcaaaDoorS5
import Derived.Test.YtnnondbimdmcaaaDoorS6
namespace Go.Proofs.YtnnondbimdmcaaaDoor.Lin
open Go.RowKit Go.Proofs.YtnnondbimdmcaaaDoorW.PrintWords Go.Proofs.YtnnondbimdmcaaaDoorW.PrintLast Go.Proofs.YtnnondbimdmcaaaDoor.F Go.Proofs.YtnnondbimdmcaaaDoor.Plain
set_option linter.unusedVariables false
attribute [local instance] linErrs

theorem inv_tab : ((List.range 32).all fun x => (x == 0 || decide (ph (invTab.getD x 0) = inv (BitVec.ofNat 8 x))) && decide (0 ≤ invTab.getD x 0) && decide (invTab.getD x 0 < 256)) = true := by kernel_rfl
theorem inv_tab_byte (x : Nat) : byte (invTab.getD x 0) := by
  rcases Nat.lt_or_ge x 32 with h | h
  · have := List.all_eq_true.1 inv_tab x (List.mem_range.2 h)
    rw [Bool.and_eq_true, Bool.and_eq_true] at this
    exact ⟨of_decide_eq_true this.1.2, of_decide_eq_true this.2⟩
  · have : invTab.length = 32 := rfl
    rw [List.getD_eq_getElem?_getD, List.getElem?_eq_none (by omega)]; exact ⟨by simp, by simp⟩
theorem inv_tab_of (s j : Nat) (hs : s < 16) (hj : j < 16) (hne : s ≠ j) : ph (invTab.getD (s ^^^ j) 0) = inv (BitVec.ofNat 8 s ^^^ BitVec.ofNat 8 j) := by
  have hx : s ^^^ j < 2 ^ 5 := Nat.xor_lt_two_pow (by omega) (by omega)
  have hz : s ^^^ j ≠ 0 := by
    intro e
    apply hne
    have : s ^^^ j ^^^ j = 0 ^^^ j := by rw [e]
    rwa [Nat.xor_assoc, Nat.xor_self, Nat.xor_zero, Nat.zero_xor] at this
  have := List.all_eq_true.1 inv_tab (s ^^^ j) (List.mem_range.2 (by omega))
  rw [Bool.and_eq_true, Bool.and_eq_true] at this
  have hb : ((s ^^^ j) == 0) = false := by simpa using hz
  rw [hb, Bool.false_or] at this
  rw [of_decide_eq_true this.1.1, BitVec.ofNat_xor]

theorem co_rsp {a b h t : Nat} (ht : t < 2 * a) : co (rsp a b h) t = ph (if h / 2 < a then (if t = h then 1 else 0) else
  if t % 2 = h % 2 then invTab.getD ((h / 2) ^^^ (t / 2)) 0 else
  if h % 2 = 0 then 0 else if a < h / 2 ∧ (h / 2 - a - 1) * ((a + b - 2) / (b - 1)) ≤ t / 2 ∧ t / 2 < (h / 2 - a) * ((a + b - 2) / (b - 1)) then 1 else 0) := by
  unfold co rsp
  rw [List.getD_eq_getElem?_getD, List.getElem?_map, List.getElem?_range ht]
  rfl
theorem rsp_good (a b h : Nat) : (rsp a b h).length = 2 * a ∧ bytes (rsp a b h) := by
  refine ⟨by simp [rsp], fun x hx => ?_⟩
  obtain ⟨t, _, rfl⟩ := List.mem_map.1 hx
  have b0 : byte 0 := ⟨by omega, by omega⟩
  have b1 : byte 1 := ⟨by omega, by omega⟩
  split
  · split
    · exact b1
    · exact b0
  · split
    · exact inv_tab_byte _
    · split
      · exact b0
      · split
        · exact b1
        · exact b0
theorem half_row_of {a b h : Nat} (hl : legalB a b = true) (hh : h < 2 * (a + b)) (K : Nat) (hK : 80 ≤ K) : half_row.f K (a : Int) (b : Int) ((h / 2 : Nat) : Int) ((h % 2 : Nat) : Int) (b : Int) (a : Int) (pof2 a b) = some (rsp a b h) := by
  have hl' : (1 ≤ a ∧ 2 ≤ b) ∧ a + b ≤ 16 := by simpa [legalB] using hl
  have h1 := List.all_eq_true.1 (sp2_all a (by omega)) b (List.mem_range.2 (by omega))
  rw [hl, Bool.not_true, Bool.false_or] at h1
  exact at_rounds (g := fun K => half_row.f K (a : Int) (b : Int) ((h / 2 : Nat) : Int) ((h % 2 : Nat) : Int) (b : Int) (a : Int) (pof2 a b)) (half_row.mono _ _ _ _ _ _ _) hK (of_decide_eq_true (List.all_eq_true.1 h1 h (List.mem_range.2 hh)))
theorem parity_of {a b : Nat} (hl : legalB a b = true) (K : Nat) (hK : 320 ≤ K) : base_Parity.f K (a : Int) (b : Int) = some ((b : Int), (a : Int), pof2 a b, none) := by
  have hl' : (1 ≤ a ∧ 2 ≤ b) ∧ a + b ≤ 16 := by simpa [legalB] using hl
  have h1 := List.all_eq_true.1 (par2_all a (by omega)) b (List.mem_range.2 (by omega))
  rw [hl, Bool.not_true, Bool.false_or] at h1
  exact at_rounds (g := fun K => base_Parity.f K (a : Int) (b : Int)) (base_Parity.mono _ _) hK (parT_le 300 _ _ _ (of_decide_eq_true h1))
theorem half_at_of (h : Nat) (hh : h < 64) : half_at.f (h : Int) = some (((h / 2 : Nat) : Int), ((h % 2 : Nat) : Int)) := by
  unfold half_at.f
  have e1 : Int.tdiv (h : Int) 2 = ((h / 2 : Nat) : Int) := by rw [Int.tdiv_eq_ediv_of_nonneg (by omega)]; omega
  have e2 : Int.tmod (h : Int) 2 = ((h % 2 : Nat) : Int) := by rw [Int.tmod_eq_emod_of_nonneg (by omega)]; omega
  rw [e1, e2]
  have : wrap64 ((h / 2 : Nat) : Int) = ((h / 2 : Nat) : Int) := by unfold wrap64; omega
  rw [this]
theorem half_rows_ (a b : Nat) (hl : legalB a b = true) : HalfRows_ a (a + b) (rsp a b) := by
  have hl' : (1 ≤ a ∧ 2 ≤ b) ∧ a + b ≤ 16 := by simpa [legalB] using hl
  refine ⟨by omega, by omega, fun s hs j hj => ?_, fun s hs j hj => ?_, fun s hs hn j hj => ⟨?_, ?_⟩, fun s hs hn j hj => ?_⟩
  · rw [co_rsp hj, if_pos (by omega)]
    by_cases e : j = 2 * s
    · rw [if_pos e, if_pos e]; rfl
    · rw [if_neg e, if_neg e]; rfl
  · rw [co_rsp hj, if_pos (by omega)]
    by_cases e : j = 2 * s + 1
    · rw [if_pos e, if_pos e]; rfl
    · rw [if_neg e, if_neg e]; rfl
  · rw [co_rsp (by omega), if_neg (by omega), if_pos (by omega), show 2 * s / 2 = s by omega, show 2 * j / 2 = j by omega]
    exact inv_tab_of s j (by omega) (by omega) (by omega)
  · rw [co_rsp (by omega), if_neg (by omega), if_neg (by omega), if_pos (by omega)]; rfl
  · rw [co_rsp (by omega), if_neg (by omega), if_pos (by omega), show (2 * s + 1) / 2 = s by omega, show (2 * j + 1) / 2 = j by omega]
    exact inv_tab_of s j (by omega) (by omega) (by omega)

/-- All halves' rows as a list of rows. -/
def hrows (a b : Nat) : List (List Int) := (List.range (2 * (a + b))).map (rsp a b)
theorem hrows_len (a b : Nat) : (hrows a b).length = 2 * (a + b) := by simp [hrows]
theorem hrows_good (a b : Nat) : good (2 * a) (hrows a b) := by
  intro r hr
  obtain ⟨h, _, rfl⟩ := List.mem_map.1 hr
  exact rsp_good a b h
theorem hrows_row {a b h : Nat} (hh : h < 2 * (a + b)) : row (hrows a b) h = rsp a b h := by
  unfold row hrows
  rw [List.getD_eq_getElem?_getD, List.getElem?_map, List.getElem?_range hh]; rfl
theorem half_rows_l0 {a b : Nat} (hl : legalB a b = true) (K : Nat) (hK : 80 ≤ K) : ∀ (d i : Nat), i + d = 2 * (a + b) →
    half_Rows.l0 (K + d + 1) (a : Int) (b : Int) ((hrows a b).take i) ((2 * (a + b) : Nat) : Int) (i : Int) (b : Int) (a : Int) (pof2 a b) =
      (mat_Of.f K (wrap64 (2 * (a : Int))) (hrows a b)).bind fun bt293 => (some (bt293.1, bt293.2.1, bt293.2.2.1, bt293.2.2.2)) := by
  have hl' : (1 ≤ a ∧ 2 ≤ b) ∧ a + b ≤ 16 := by simpa [legalB] using hl
  intro d
  induction d with
  | zero =>
    intro i hi
    rw [Nat.add_zero, half_Rows.l0, if_neg (by omega), List.take_of_length_le (by rw [hrows_len]; omega)]
  | succ d ih =>
    intro i hi
    have e : K + (d + 1) + 1 = (K + d + 1) + 1 := by omega
    have hil : i < (hrows a b).length := by rw [hrows_len]; omega
    rw [e, half_Rows.l0, if_pos (by omega), half_at_of i (by omega), Option.bind_some, half_row_of hl (by omega) (K + d + 1) (by omega), Option.bind_some, if_pos (by rw [List.length_take, hrows_len]; omega)]
    have hw : wrap64 ((i : Int) + 1) = ((i + 1 : Nat) : Int) := by unfold wrap64; omega
    have e2 : (hrows a b).take i ++ [rsp a b i] = (hrows a b).take (i + 1) := by
      rw [List.take_succ_eq_append_getElem hil]
      congr 1
      simp [hrows]
    rw [hw, e2]
    exact ih (i + 1) (by omega)
theorem half_rows_flat (a b : Nat) (hl : legalB a b = true) (K : Nat) (hK : 700 ≤ K) :
    half_Rows.f K (a : Int) (b : Int) = some (((hrows a b).length : Int), ((2 * a : Nat) : Int), (hrows a b).flatten, none) := by
  have hl' : (1 ≤ a ∧ 2 ≤ b) ∧ a + b ≤ 16 := by simpa [legalB] using hl
  obtain ⟨J, hJ, rfl⟩ : ∃ J, 80 ≤ J ∧ K = J + 2 * (a + b) + 1 := ⟨K - 2 * (a + b) - 1, by omega, by omega⟩
  unfold half_Rows.f
  have hw : wrap64 (2 * wrap64 ((a : Int) + (b : Int))) = ((2 * (a + b) : Nat) : Int) := by unfold wrap64; omega
  have hw2 : wrap64 (2 * (a : Int)) = ((2 * a : Nat) : Int) := by unfold wrap64; omega
  rw [parity_of hl _ (by omega), Option.bind_some, if_pos (show (none : Option Int).isNone = true by rfl), hw]
  have h0 := half_rows_l0 hl J hJ (2 * (a + b)) 0 (by omega)
  rw [List.take_zero, show ((0 : Nat) : Int) = 0 by rfl] at h0
  rw [h0, hw2, mat_of_of (hrows_good a b) (by omega) (by rw [hrows_len]; omega) J (by rw [hrows_len]; omega)]
  rfl

/-- The halves of some shards. -/
def hidx (S : List Nat) : List Nat := S.flatMap fun s => [2 * s, 2 * s + 1]
theorem hidx_len (S : List Nat) : (hidx S).length = 2 * S.length := by
  induction S with
  | nil => rfl
  | cons s S ih => show ([2 * s, 2 * s + 1] ++ hidx S).length = _; rw [List.length_append, ih, List.length_cons, List.length_cons, List.length_cons, List.length_nil]; omega
theorem hidx_mem {S : List Nat} {i : Nat} : i ∈ hidx S ↔ i / 2 ∈ S := by
  unfold hidx
  rw [List.mem_flatMap]
  constructor
  · rintro ⟨s, hs, h⟩
    have : i = 2 * s ∨ i = 2 * s + 1 := by simpa using h
    have e : i / 2 = s := by omega
    rw [e]; exact hs
  · intro h
    refine ⟨i / 2, h, ?_⟩
    have : i = 2 * (i / 2) ∨ i = 2 * (i / 2) + 1 := by omega
    rcases this with e | e
    · rw [← e]; simp
    · rw [← e]; simp
/-- Any a shards' halves have full rank. -/
theorem shards_rank (a b : Nat) (hl : legalB a b = true) (S : List Nat) (hS : S.Nodup) (hSl : S.length = a) (hlt : ∀ s, s ∈ S → s < a + b) (K : Nat) (hK : 300 ≤ K) :
    solve_Rank.f K (((hidx S).map (row (hrows a b))).length : Int) ((2 * a : Nat) : Int) ((hidx S).map (row (hrows a b))).flatten = some (((2 * a : Nat) : Int), none) := by
  have hl' : (1 ≤ a ∧ 2 ≤ b) ∧ a + b ≤ 16 := by simpa [legalB] using hl
  have hx : ∀ i, i ∈ hidx S → i < (hrows a b).length := fun i hi => by
    have := hlt _ (hidx_mem.1 hi)
    rw [hrows_len]; omega
  obtain ⟨q, h1, h2, h3⟩ := rank_of (good_take (hrows_good a b) (hidx S) hx) (by omega) (by rw [List.length_map, hidx_len]; omega) K hK
  have ht : Triv (2 * a) ((hidx S).map (row (hrows a b))) := by
    intro v hv
    refine shards_triv (half_rows_ a b hl) S hS hSl hlt v (fun s hs => ⟨?_, ?_⟩)
    · have := hv (row (hrows a b) (2 * s)) (List.mem_map.2 ⟨2 * s, hidx_mem.2 (by rw [show 2 * s / 2 = s by omega]; exact hs), rfl⟩)
      rwa [hrows_row (by have := hlt s hs; omega)] at this
    · have := hv (row (hrows a b) (2 * s + 1)) (List.mem_map.2 ⟨2 * s + 1, hidx_mem.2 (by rw [show (2 * s + 1) / 2 = s by omega]; exact hs), rfl⟩)
      rwa [hrows_row (by have := hlt s hs; omega)] at this
  have := h3.2 ht
  subst this
  exact h1
end Go.Proofs.YtnnondbimdmcaaaDoor.Lin

namespace Go.Proofs.YtnnondbimdmcaaaDoor.Pure
open Go.RowKit Go.Proofs.YtnnondbimdmcaaaDoorW.PrintWords Go.Proofs.YtnnondbimdmcaaaDoorW.PrintLast Go.Proofs.YtnnondbimdmcaaaDoor.F Go.Proofs.YtnnondbimdmcaaaDoor.Plain Go.Proofs.YtnnondbimdmcaaaDoor.Lin
set_option linter.unusedVariables false
attribute [local instance] linErrs

def hv (S : List Nat) : List Int := (hidx S).map (fun i : Nat => (i : Int))
structure Pick (n A : Nat) (S : List Nat) (inn : List Bool) (lst : List Int) : Prop where
  nd : S.Nodup
  lt : ∀ s, s ∈ S → s < n
  le : S.length ≤ A
  il : inn.length = n
  im : ∀ s, s < n → rdOf false inn (s : Int) = decide (s ∈ S)
  ls : lst = hv S
theorem hv_len (S : List Nat) : (hv S).length = 2 * S.length := by unfold hv; rw [List.length_map, hidx_len]
theorem hv_snoc (S : List Nat) (s : Nat) : hv (S ++ [s]) = hv S ++ [((2 * s : Nat) : Int), ((2 * s + 1 : Nat) : Int)] := by
  unfold hv hidx
  rw [List.flatMap_append, List.map_append]
  simp
theorem Pick.add {n A : Nat} {S : List Nat} {inn : List Bool} {lst : List Int} (P : Pick n A S inn lst) (s : Nat) (hs : s < n) (hn : n ≤ 16) (hl : S.length < A) (h : rdOf false inn (s : Int) = false) :
    Pick n A (S ++ [s]) (inn.set s true) (lst ++ [wrap64 (2 * (s : Int)), wrap64 (wrap64 (2 * (s : Int)) + 1)]) := by
  have hsS : s ∉ S := by rw [P.im s hs] at h; simpa using h
  refine ⟨?_, ?_, by rw [List.length_append, List.length_cons, List.length_nil]; omega, by rw [List.length_set]; exact P.il, fun t ht => ?_, ?_⟩
  · rw [List.nodup_append]
    exact ⟨P.nd, by simp, fun a ha b hb => by have : b = s := by simpa using hb
                                              subst this; rintro rfl; exact hsS ha⟩
  · intro t ht
    rcases List.mem_append.1 ht with h1 | h1
    · exact P.lt t h1
    · have : t = s := by simpa using h1
      omega
  · unfold rdOf
    rw [Int.toNat_natCast]
    by_cases e : t = s
    · subst e
      rw [List.getD_eq_getElem?_getD, List.getElem?_set_self (by have := P.il; omega)]
      simp
    · rw [List.getD_eq_getElem?_getD, List.getElem?_set_ne (by omega), ← List.getD_eq_getElem?_getD]
      have := P.im t ht
      unfold rdOf at this
      rw [Int.toNat_natCast] at this
      rw [this]
      simp [e]
  · rw [hv_snoc, P.ls]
    have e1 : wrap64 (2 * (s : Int)) = ((2 * s : Nat) : Int) := by unfold wrap64; omega
    have e2 : wrap64 (((2 * s : Nat) : Int) + 1) = ((2 * s + 1 : Nat) : Int) := by unfold wrap64; omega
    rw [e1, e2]

section
variable {A B : Nat} (hleg : legalB A B = true)
include hleg
/-- The second loop, the Take and the rank. -/
theorem any_l1 : ∀ (d i : Nat) (K : Nat) (S : List Nat) (inn : List Bool) (lst : List Int), i + d = A + B → Pick (A + B) A S inn lst → (∀ s, s < i → s ∈ S ∨ S.length = A) → 2 * d + 1000 < K →
    tesseralaw05_HalfAnyShards.l1 K (A : Int) ((A + B : Nat) : Int) inn lst none (i : Int) ((hrows A B).length : Int) ((2 * A : Nat) : Int) (hrows A B).flatten = some true := by
  have hl' : (1 ≤ A ∧ 2 ≤ B) ∧ A + B ≤ 16 := by simpa [legalB] using hleg
  have hw : wrap64 (2 * (A : Int)) = ((2 * A : Nat) : Int) := by unfold wrap64; omega
  have last : ∀ (K : Nat) (S : List Nat) (inn : List Bool) (lst : List Int) (i : Int), Pick (A + B) A S inn lst → S.length = A → 500 < K →
      tesseralaw05_HalfAnyShards.j3 K (A : Int) ((A + B : Nat) : Int) inn lst none i false ((hrows A B).length : Int) ((2 * A : Nat) : Int) (hrows A B).flatten = some true := by
    intro K S inn lst i P hS hK
    obtain ⟨K, rfl⟩ : ∃ m, K = m + 1 := ⟨K - 1, by omega⟩
    have ht := take_of (hrows_good A B) (by omega) (by rw [hrows_len]; omega) (hidx S) (fun i hi => by have := P.lt _ (hidx_mem.1 hi); rw [hrows_len]; omega) (by rw [hidx_len]; omega) K (by omega)
    have hr := shards_rank A B hleg S P.nd hS P.lt K (by omega)
    rw [tesseralaw05_HalfAnyShards.j3, if_neg (by decide), P.ls]
    unfold hv
    rw [ht, Option.bind_some, hr, Option.bind_some, if_pos (show isNil (none : Option Int) = true by rfl), if_pos (show isNil (none : Option Int) = true by rfl), if_pos (show isNil (none : Option Int) = true by rfl), hw]
    simp
  intro d
  induction d with
  | zero =>
    intro i K S inn lst hi P hall hK
    obtain ⟨K, rfl⟩ : ∃ m, K = m + 1 := ⟨K - 1, by omega⟩
    have hSA : S.length = A := by
      by_cases h : S.length = A
      · exact h
      · exfalso
        have h1 : ∀ s, s < A + B → s ∈ S := fun s hs => (hall s (by omega)).resolve_right h
        have h2 := mem_count (A + B) S P.nd P.lt
        have h3 : (List.range (A + B)).filter (fun j => decide (j ∈ S)) = List.range (A + B) := List.filter_eq_self.2 (fun a ha => by simpa using h1 a (List.mem_range.1 ha))
        rw [h3, List.length_range] at h2
        have := P.le
        omega
    rw [tesseralaw05_HalfAnyShards.l1, if_neg (by omega)]
    exact last K S inn lst _ P hSA (by omega)
  | succ d ih =>
    intro i K S inn lst hi P hall hK
    obtain ⟨K, rfl⟩ : ∃ m, K = m + 2 := ⟨K - 2, by omega⟩
    have hwi : wrap64 ((i : Int) + 1) = ((i + 1 : Nat) : Int) := by unfold wrap64; omega
    rw [tesseralaw05_HalfAnyShards.l1, if_pos (by omega), hw]
    by_cases hSA : S.length = A
    · rw [decide_eq_false (by rw [P.ls, hv_len]; omega)]
      exact last (K + 1) S inn lst _ P hSA (by omega)
    · have hlt : S.length < A := by have := P.le; omega
      rw [decide_eq_true (by rw [P.ls, hv_len]; omega), tesseralaw05_HalfAnyShards.j3, if_pos rfl, if_pos (by omega), if_pos (by rw [P.il]; omega)]
      cases hin : rdOf false inn (i : Int) with
      | true =>
        rw [if_pos rfl, hwi]
        refine ih (i + 1) K S inn lst (by omega) P (fun s hs => ?_) (by omega)
        by_cases e : s = i
        · subst e
          rw [P.im s (by omega)] at hin
          exact .inl (by simpa using hin)
        · exact hall s (by omega)
      | false =>
        rw [if_neg (by decide), Option.bind_some, if_pos (by rw [P.ls, hv_len]; simp; omega), hwi, Int.toNat_natCast]
        refine ih (i + 1) K (S ++ [i]) _ _ (by omega) (P.add i (by omega) (by omega) hlt hin) (fun s hs => ?_) (by omega)
        by_cases e : s = i
        · subst e; exact .inl (by simp)
        · rcases hall s (by omega) with h | h
          · exact .inl (List.mem_append_left _ h)
          · omega

/-- The first loop. -/
theorem any_l0 (picks : List Int) (hp : picks.length ≤ 17592186044415) : ∀ (d i : Nat) (K : Nat) (S : List Nat) (inn : List Bool) (lst : List Int), i + d = picks.length + (A + B) → Pick (A + B) A S inn lst → 2 * d + 2000 < K →
    tesseralaw05_HalfAnyShards.l0 K (A : Int) (B : Int) picks ((A + B : Nat) : Int) inn lst (i : Int) = some true := by
  have hl' : (1 ≤ A ∧ 2 ≤ B) ∧ A + B ≤ 16 := by simpa [legalB] using hleg
  have hw : wrap64 (2 * (A : Int)) = ((2 * A : Nat) : Int) := by unfold wrap64; omega
  have last : ∀ (K : Nat) (S : List Nat) (inn : List Bool) (lst : List Int) (i : Int), Pick (A + B) A S inn lst → 1500 < K → tesseralaw05_HalfAnyShards.j1 K (A : Int) (B : Int) picks ((A + B : Nat) : Int) inn lst i false = some true := by
    intro K S inn lst i P hK
    obtain ⟨K, rfl⟩ : ∃ m, K = m + 1 := ⟨K - 1, by omega⟩
    rw [tesseralaw05_HalfAnyShards.j1, if_neg (by decide), half_rows_flat A B hleg K (by omega), Option.bind_some]
    exact any_l1 hleg (A + B) 0 K S inn lst (by omega) P (fun s hs => by omega) (by omega)
  have pick : ∀ (K i : Nat) (S : List Nat) (inn : List Bool) (lst : List Int) (s : Nat) (x : Int), x = (s : Int) → s < A + B → Pick (A + B) A S inn lst → S.length < A →
      (∀ S inn lst, Pick (A + B) A S inn lst → tesseralaw05_HalfAnyShards.l0 K (A : Int) (B : Int) picks ((A + B : Nat) : Int) inn lst ((i + 1 : Nat) : Int) = some true) → wrap64 ((i : Int) + 1) = ((i + 1 : Nat) : Int) →
      (if 0 ≤ x then (if x < (inn.length : Int) then (if (rdOf false inn x = true) then (tesseralaw05_HalfAnyShards.l0 K (A : Int) (B : Int) picks ((A + B : Nat) : Int) inn lst (wrap64 ((i : Int) + 1))) else ((some (([wrap64 (2 * x), wrap64 ((wrap64 (2 * x)) + 1)] : List Int) : List Int)).bind fun y417 => (if lst.length + y417.length < 17592186044416 then (tesseralaw05_HalfAnyShards.l0 K (A : Int) (B : Int) picks ((A + B : Nat) : Int) (inn.set (x : Int).toNat true) (lst ++ y417) (wrap64 ((i : Int) + 1))) else (none)))) else (none)) else (none)) = some true := by
    intro K i S inn lst s x hx hs P hlt hrec hwi
    subst hx
    rw [if_pos (by omega), if_pos (by rw [P.il]; omega), hwi]
    cases hin : rdOf false inn (s : Int) with
    | true => rw [if_pos rfl]; exact hrec S inn lst P
    | false =>
      rw [if_neg (by decide), Option.bind_some, if_pos (by rw [P.ls, hv_len]; simp; omega), Int.toNat_natCast]
      exact hrec _ _ _ (P.add s hs (by omega) hlt hin)
  intro d
  induction d with
  | zero =>
    intro i K S inn lst hi P hK
    obtain ⟨K, rfl⟩ : ∃ m, K = m + 1 := ⟨K - 1, by omega⟩
    have hwn : wrap64 ((picks.length : Int) + ((A + B : Nat) : Int)) = ((picks.length + (A + B) : Nat) : Int) := by unfold wrap64; omega
    rw [tesseralaw05_HalfAnyShards.l0, hwn, if_neg (by omega)]
    exact last K S inn lst _ P (by omega)
  | succ d ih =>
    intro i K S inn lst hi P hK
    obtain ⟨K, rfl⟩ : ∃ m, K = m + 2 := ⟨K - 2, by omega⟩
    have hwn : wrap64 ((picks.length : Int) + ((A + B : Nat) : Int)) = ((picks.length + (A + B) : Nat) : Int) := by unfold wrap64; omega
    have hwi : wrap64 ((i : Int) + 1) = ((i + 1 : Nat) : Int) := by unfold wrap64; omega
    rw [tesseralaw05_HalfAnyShards.l0, hwn, if_pos (by omega), hw]
    by_cases hSA : S.length = A
    · rw [decide_eq_false (by rw [P.ls, hv_len]; omega)]
      exact last (K + 1) S inn lst _ P (by omega)
    · have hlt : S.length < A := by have := P.le; omega
      have hrec : ∀ S inn lst, Pick (A + B) A S inn lst → tesseralaw05_HalfAnyShards.l0 K (A : Int) (B : Int) picks ((A + B : Nat) : Int) inn lst ((i + 1 : Nat) : Int) = some true := fun S inn lst P => ih (i + 1) K S inn lst (by omega) P (by omega)
      rw [decide_eq_true (by rw [P.ls, hv_len]; omega), tesseralaw05_HalfAnyShards.j1, if_pos rfl, if_neg (by omega)]
      by_cases hip : (i : Int) < (picks.length : Int)
      · rw [if_pos hip, if_pos (by omega)]
        have hn0 : (0 : Int) < ((A + B : Nat) : Int) := by omega
        have q1 := Int.tmod_lt_of_pos (rd picks (i : Int)) hn0
        have q2 : -((A + B : Nat) : Int) < Int.tmod (rd picks (i : Int)) ((A + B : Nat) : Int) := by
          have := Int.lt_tmod_of_pos (rd picks (i : Int)) hn0
          omega
        have hwx : wrap64 (Int.tmod (rd picks (i : Int)) ((A + B : Nat) : Int) + ((A + B : Nat) : Int)) = Int.tmod (rd picks (i : Int)) ((A + B : Nat) : Int) + ((A + B : Nat) : Int) := by unfold wrap64; omega
        rw [hwx]
        have q3 := Int.tmod_nonneg ((A + B : Nat) : Int) (a := Int.tmod (rd picks (i : Int)) ((A + B : Nat) : Int) + ((A + B : Nat) : Int)) (by omega)
        have q4 := Int.tmod_lt_of_pos (Int.tmod (rd picks (i : Int)) ((A + B : Nat) : Int) + ((A + B : Nat) : Int)) hn0
        exact pick K i S inn lst (Int.tmod (Int.tmod (rd picks (i : Int)) ((A + B : Nat) : Int) + ((A + B : Nat) : Int)) ((A + B : Nat) : Int)).toNat _ (by omega) (by omega) P hlt hrec hwi
      · rw [if_neg hip]
        have hn0 : (0 : Int) < ((A + B : Nat) : Int) := by omega
        have q3 := Int.tmod_nonneg ((A + B : Nat) : Int) (a := (i : Int)) (by omega)
        have q4 := Int.tmod_lt_of_pos (i : Int) hn0
        exact pick K i S inn lst (Int.tmod (i : Int) ((A + B : Nat) : Int)).toNat _ (by omega) (by omega) P hlt hrec hwi
end

theorem any_alive (K : Nat) (hK : 700 ≤ K) : tesseralaw05_alive.f K = some true := at_rounds (g := fun K => tesseralaw05_alive.f K) (@tesseralaw05_alive.mono linErrs) hK (by kernel_rfl)

theorem HalfAnyShards : ∀ (a0 : Int) (a1 : Int) (l2 : List Int), (Lit.int .i64 a0).wf = true → (Lit.int .i64 a1).wf = true → l2.length ≤ maxLen → l2.length * 8 ≤ 140737488351232 → (∀ x ∈ l2, (Lit.int .i64 x).wf = true) → ∃ k, F.tesseralaw05_HalfAnyShards.f k a0 a1 l2 = some true := by
  intro a b l ha hb hl hl8 hlw
  refine ⟨2 * (l.length + 16) + 4000, ?_⟩
  unfold tesseralaw05_HalfAnyShards.f
  rw [any_alive _ (by omega), Option.bind_some, if_pos rfl]
  rcases legal_cases a b with ⟨A, B, rfl, rfl, hleg, hL, hC⟩ | ⟨hL, hC⟩
  · have hl' : (1 ≤ A ∧ 2 ≤ B) ∧ A + B ≤ 16 := by simpa [legalB] using hleg
    have hw0 : wrap64 ((A : Int) + (B : Int)) = ((A + B : Nat) : Int) := by unfold wrap64; omega
    rw [hL, Option.bind_some, if_pos rfl, hw0, if_pos (by omega), if_pos (by omega), Int.toNat_natCast]
    refine any_l0 hleg l (by omega) (l.length + (A + B)) 0 _ [] _ _ (by omega) ⟨by simp, by simp, by simp, by simp, fun s hs => ?_, rfl⟩ (by omega)
    unfold rdOf
    rw [Int.toNat_natCast, List.getD_eq_getElem?_getD, List.getElem?_replicate, if_pos hs]
    simp
  · rw [hL]; rfl

end Go.Proofs.YtnnondbimdmcaaaDoor.Pure
